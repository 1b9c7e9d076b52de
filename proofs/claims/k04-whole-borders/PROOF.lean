import PyProof.Rows.All
import Wide.All
import OpenK.AllK
import Wide.FinOn
import HandS.ForMost
import HandS.ForExc
import HandS.ExcCtx
import HandS.HotCalls
import HandS.ExcIs
import HandS.ExcValue
import HandS.Style
import HandS.Wide
import HandS.Conv
import PyProof.ListStr
import HandS.Zip
import HandS.IsInst
import HandS.TryOnly
import HandS.Set
import HandS.SetFor
import HandS.SortInts
import HandS.More
import HandS.Dict
import HandS.Strs
import KE.DataMinMax
import KE.SortData
import HandS.SortKw
import HandS.Deep
import HandS.TupLe
import HandS.Replace
import KE.KDictWalk
import KE.BitLaws
import PySem.Challenge.RW_overlaid_k04_whole_borders
set_option Elab.async false
set_option linter.all false
set_option maxRecDepth 100000
set_option maxHeartbeats 4000000
set_option autoImplicit false
namespace MV
open PySem L2
inductive D where
  | non
  | bl (b : Bool)
  | int (i : Int)
  | str (x : Str)
  | lst (xs : List D)
  | tup (xs : List D)
  | dic (kvs : List (Key × D))
  | dit (kvs : List (List Key × D))
  | exc (c : Str)
  deriving Inhabited
def D.toV : D → Option V
  | .non => some .non
  | .bl b => some (.bl b)
  | .int i => some (.int i)
  | .str x => some (.str x)
  | _ => none
def D.sc (d : D) : Bool := d.toV.isSome
def D.flat : D → Bool
  | .lst xs => xs.all D.sc
  | .tup xs => xs.all D.sc
  | d => d.sc
def Ex (H H' : Hp) : Prop := ∀ a o, H a = some o → H' a = some o
theorem Ex.refl (H : Hp) : Ex H H := fun _ _ h => h
theorem Ex.trans {H H1 H2 : Hp} (a : Ex H H1) (b : Ex H1 H2) : Ex H H2 := fun x o h => b x o (a x o h)
theorem Ex.new {H : Hp} {p : Addr} {o : HO} (h : H p = none) : Ex H (upd H p o) := fun a u e => by
  rw [upd_ne (ne_of_none e h)]; exact e
theorem Ex.dom {H H' : Hp} (e : Ex H H') {a : Addr} (h : H a ≠ none) : H' a ≠ none := by
  cases q : H a with
  | none => exact absurd q h
  | some o => rw [e a o q]; exact fun z => by cases z
theorem Ex.back {H H' : Hp} (e : Ex H H') {a : Addr} (h : H' a = none) : H a = none := by
  cases q : H a with
  | none => rfl
  | some o => rw [e a o q] at h; cases h
def nw (H H' : Hp) : Hp := fun a => match H a with | none => H' a | some _ => none
def grow (G H H' : Hp) : Hp := fun a => match H a with | none => H' a | some _ => G a
def rs (G B : Hp) : Hp := fun a => match B a with | none => G a | some _ => none
def rm (G : Hp) (w : List Addr) : Hp := fun a => if a ∈ w then none else G a
theorem grow_none {G H H' : Hp} {a : Addr} (h : H a = none) : grow G H H' a = H' a := by unfold grow; rw [h]
theorem grow_some {G H H' : Hp} {a : Addr} {o : HO} (h : H a = some o) : grow G H H' a = G a := by unfold grow; rw [h]
theorem rs_none {G B : Hp} {a : Addr} (h : B a = none) : rs G B a = G a := by unfold rs; rw [h]
theorem rs_some {G B : Hp} {a : Addr} {o : HO} (h : B a = some o) : rs G B a = none := by unfold rs; rw [h]
theorem nw_none {H H' : Hp} {a : Addr} (h : H a = none) : nw H H' a = H' a := by unfold nw; rw [h]
theorem nw_some {H H' : Hp} {a : Addr} {o : HO} (h : H a = some o) : nw H H' a = none := by unfold nw; rw [h]
theorem Ex.grow {G H H' : Hp} (e : Ex G H) (x : Ex H H') : Ex G (grow G H H') := fun a o h => by
  rw [grow_some (e a o h)]; exact h
theorem grow_sub {G H H' : Hp} (e : Ex G H) (x : Ex H H') : Ex (grow G H H') H' := fun a o h => by
  cases q : H a with
  | none => rw [grow_none q] at h; exact h
  | some u => rw [grow_some q] at h; exact x a o (e a o h)
theorem rs_sub (G B : Hp) : Ex (rs G B) G := fun a o h => by
  cases q : B a with
  | none => rw [rs_none q] at h; exact h
  | some u => rw [rs_some q] at h; cases h
theorem rs_mono {G G' B : Hp} (e : Ex G G') : Ex (rs G B) (rs G' B) := fun a o h => by
  cases q : B a with
  | none => rw [rs_none q] at h ⊢; exact e a o h
  | some u => rw [rs_some q] at h; cases h
theorem rm_sub (G : Hp) (w : List Addr) : Ex (rm G w) G := fun a o h => by
  unfold rm at h; split at h
  · cases h
  · exact h
def SqLx (K : PySem.W.Frag) : Bool → Hp → Addr → List V → Prop
  | true, G, a, xs => G a = some (.lst xs)
  | false, G, a, xs => SqL K G a xs
def SqTx (K : PySem.W.Frag) : Bool → Hp → Addr → List V → Prop
  | true, G, a, xs => G a = some (.tup xs)
  | false, G, a, xs => SqT K G a xs
def DqK : Bool → Hp → Addr → List (Key × V) → Prop
  | true, G, a, kvs => G a = some (.dK kvs)
  | false, G, a, kvs => ∃ o, G a = some (.frz o (.dK kvs))
def cvK (K : PySem.W.Frag) (c : Str) : Value := match PySem.W.nsIn K mainGlobals c with
  | some (some v) => v
  | _ => .none
def ExH (cls : Value) (a : Addr) : HO := .ext fun h => ∃ (oe : Obj) (vs : Array Value), h.get? a = some oe ∧ oe.cls = cls ∧ oe.dict = none ∧ oe.data = .fields vs
mutual
inductive Rp (K : PySem.W.Frag) (x : Bool) (G : Hp) : V → D → Prop
  | sc {v : V} {d : D} : d.toV = some v → Rp K x G v d
  | lst {a : Addr} {xs : List V} {ds : List D} : SqLx K x G a xs → RpL K x G xs ds → Rp K x G (.ref a) (.lst ds)
  | tup {a : Addr} {xs : List V} {ds : List D} : SqTx K x G a xs → RpL K x G xs ds → Rp K x G (.ref a) (.tup ds)
  | dic {a : Addr} {ks : List Key} {vs : List V} {ds : List D} : DqK x G a (ks.zip vs) → ks.length = vs.length → RpL K x G vs ds → Rp K x G (.ref a) (.dic (ks.zip ds))
  | dit {a : Addr} {ks : List (List Key)} {vs : List V} {ds : List D} : Rd G a (.dT (ks.zip vs)) → ks.length = vs.length → RpL K x G vs ds → Rp K x G (.ref a) (.dit (ks.zip ds))
  | exc {a : Addr} {c : Str} : G a = some (ExH (cvK K c) a) → Rp K x G (.ref a) (.exc c)
inductive RpL (K : PySem.W.Frag) (x : Bool) (G : Hp) : List V → List D → Prop
  | nil : RpL K x G [] []
  | cons {v : V} {vs : List V} {d : D} {ds : List D} : Rp K x G v d → RpL K x G vs ds → RpL K x G (v :: vs) (d :: ds)
end
theorem ex_sql {K : PySem.W.Frag} {H H' : Hp} {a : Addr} {xs : List V} (e : Ex H H') (h : SqL K H a xs) : SqL K H' a xs := by
  rcases h with (h | ⟨o, h⟩) | h
  · exact .inl (.inl (e _ _ h))
  · exact .inl (.inr ⟨o, e _ _ h⟩)
  · exact .inr h
theorem ex_sqt {K : PySem.W.Frag} {H H' : Hp} {a : Addr} {xs : List V} (e : Ex H H') (h : SqT K H a xs) : SqT K H' a xs := by
  rcases h with (h | ⟨o, h⟩) | h
  · exact .inl (.inl (e _ _ h))
  · exact .inl (.inr ⟨o, e _ _ h⟩)
  · exact .inr h
theorem SqLx.any {K : PySem.W.Frag} {H : Hp} {a : Addr} {xs : List V} {x : Bool} (h : SqLx K x H a xs) : SqL K H a xs := by
  cases x with
  | true => exact .inl (.inl h)
  | false => exact h
theorem SqTx.any {K : PySem.W.Frag} {H : Hp} {a : Addr} {xs : List V} {x : Bool} (h : SqTx K x H a xs) : SqT K H a xs := by
  cases x with
  | true => exact .inl (.inl h)
  | false => exact h
theorem ex_sqlx {K : PySem.W.Frag} {x y : Bool} {H H' : Hp} {a : Addr} {xs : List V} (e : Ex H H') (l : y = true → x = true) (h : SqLx K x H a xs) : SqLx K y H' a xs := by
  cases y with
  | true => rw [l rfl] at h; exact e _ _ h
  | false => exact ex_sql e h.any
theorem ex_sqtx {K : PySem.W.Frag} {x y : Bool} {H H' : Hp} {a : Addr} {xs : List V} (e : Ex H H') (l : y = true → x = true) (h : SqTx K x H a xs) : SqTx K y H' a xs := by
  cases y with
  | true => rw [l rfl] at h; exact e _ _ h
  | false => exact ex_sqt e h.any
theorem ex_dqk {x : Bool} {H H' : Hp} {a : Addr} {kvs : List (Key × V)} (e : Ex H H') (h : DqK x H a kvs) : DqK x H' a kvs := by
  cases x with
  | true => exact e _ _ h
  | false => obtain ⟨o, h⟩ := h; exact ⟨o, e _ _ h⟩
theorem rd_mono {H H' : Hp} {a : Addr} {u : HO} (e : Ex H H') (h : Rd H a u) : Rd H' a u := h.imp (e _ _) fun ⟨o, q⟩ => ⟨o, e _ _ q⟩
mutual
theorem Rp.to {K : PySem.W.Frag} {x : Bool} {G G' : Hp} (e : Ex G G') : ∀ {v : V} {d : D}, Rp K x G v d → Rp K x G' v d
  | _, _, .sc h => .sc h
  | _, _, .lst h r => .lst (ex_sqlx e id h) (RpL.to e r)
  | _, _, .tup h r => .tup (ex_sqtx e id h) (RpL.to e r)
  | _, _, .dic h n r => .dic (ex_dqk e h) n (RpL.to e r)
  | _, _, .dit h n r => .dit (rd_mono e h) n (RpL.to e r)
  | _, _, .exc h => .exc (e _ _ h)
theorem RpL.to {K : PySem.W.Frag} {x : Bool} {G G' : Hp} (e : Ex G G') : ∀ {vs : List V} {ds : List D}, RpL K x G vs ds → RpL K x G' vs ds
  | _, _, .nil => .nil
  | _, _, .cons h r => .cons (Rp.to e h) (RpL.to e r)
end
section
variable {K : PySem.W.Frag} {x : Bool} {G : Hp}
theorem Rp.mono {G' : Hp} (e : Ex G G') {v : V} {d : D} (h : Rp K x G v d) : Rp K x G' v d := h.to e
theorem RpL.mono {G' : Hp} (e : Ex G G') {v : List V} {d : List D} (h : RpL K x G v d) : RpL K x G' v d := h.to e
theorem RpL.length : ∀ {vs : List V} {ds : List D}, RpL K x G vs ds → vs.length = ds.length
  | _, _, .nil => rfl
  | _, _, .cons _ r => by rw [List.length_cons, List.length_cons, r.length]
theorem RpL.get : ∀ {vs : List V} {ds : List D} {i : Nat} {d : D}, RpL K x G vs ds → ds[i]? = some d → ∃ v, vs[i]? = some v ∧ Rp K x G v d
  | _, _, _, _, .nil, h => by simp at h
  | _, _, 0, _, .cons h _, e => by simp at e; subst e; exact ⟨_, rfl, h⟩
  | _, _, i + 1, d, .cons _ r, e => by
    obtain ⟨v, h1, h2⟩ := RpL.get (i := i) (d := d) r (by simpa using e)
    exact ⟨v, by simpa using h1, h2⟩
theorem RpL.getV : ∀ {vs : List V} {ds : List D} {i : Nat} {v : V}, RpL K x G vs ds → vs[i]? = some v → ∃ d, ds[i]? = some d ∧ Rp K x G v d
  | _, _, _, _, .nil, h => by simp at h
  | _, _, 0, _, .cons h _, e => by simp at e; subst e; exact ⟨_, rfl, h⟩
  | _, _, i + 1, d, .cons _ r, e => by
    obtain ⟨v, h1, h2⟩ := RpL.getV (i := i) (v := d) r (by simpa using e)
    exact ⟨v, by simpa using h1, h2⟩
theorem RpL.append : ∀ {vs ws : List V} {ds es : List D}, RpL K x G vs ds → RpL K x G ws es → RpL K x G (vs ++ ws) (ds ++ es)
  | _, _, _, _, .nil, h => h
  | _, _, _, _, .cons h r, h2 => .cons h (RpL.append r h2)
theorem RpL.take : ∀ {vs : List V} {ds : List D} (n : Nat), RpL K x G vs ds → RpL K x G (vs.take n) (ds.take n)
  | _, _, 0, _ => .nil
  | _, _, _ + 1, .nil => .nil
  | _, _, n + 1, .cons h r => .cons h (RpL.take n r)
theorem RpL.drop : ∀ {vs : List V} {ds : List D} (n : Nat), RpL K x G vs ds → RpL K x G (vs.drop n) (ds.drop n)
  | _, _, 0, r => r
  | _, _, _ + 1, .nil => .nil
  | _, _, n + 1, .cons _ r => RpL.drop n r
theorem RpL.rev {vs : List V} {ds : List D} (h : RpL K x G vs ds) : RpL K x G vs.reverse ds.reverse := by
  induction vs generalizing ds with
  | nil => cases h; exact .nil
  | cons v vs ih => cases h with | cons h r => rw [List.reverse_cons, List.reverse_cons]; exact (ih r).append (.cons h .nil)
theorem RpL.set : ∀ {vs : List V} {ds : List D} {v : V} {d : D} (i : Nat), RpL K x G vs ds → Rp K x G v d → RpL K x G (vs.set i v) (ds.set i d)
  | _, _, _, _, _, .nil, _ => .nil
  | _, _, _, _, 0, .cons _ t, r => .cons r t
  | _, _, _, _, i + 1, .cons q t, r => .cons q (RpL.set i t r)
theorem Rp.sc_any {v : V} {d : D} (h : Rp K x G v d) (hs : d.sc = true) (y : Bool) (G' : Hp) : Rp K y G' v d := by
  cases h with
  | sc h => exact .sc h
  | lst _ _ => cases hs
  | tup _ _ => cases hs
  | dic _ _ _ => cases hs
  | dit _ _ _ => cases hs
  | exc _ => cases hs
theorem Rp.toV {v : V} {d : D} (h : Rp K x G v d) (hs : d.sc = true) : d.toV = some v := by
  cases h with
  | sc h => exact h
  | lst _ _ => cases hs
  | tup _ _ => cases hs
  | dic _ _ _ => cases hs
  | dit _ _ _ => cases hs
  | exc _ => cases hs
theorem RpL.sc_any : ∀ {vs : List V} {ds : List D}, RpL K x G vs ds → ds.all D.sc = true → ∀ (y : Bool) (G' : Hp), RpL K y G' vs ds
  | _, _, .nil, _, _, _ => .nil
  | _, _, .cons h r, hs, y, G' => by
    rw [List.all_cons, Bool.and_eq_true] at hs
    exact .cons (h.sc_any hs.1 y G') (RpL.sc_any r hs.2 y G')
theorem Rp.int_inv {v : V} {i : Int} (h : Rp K x G v (.int i)) : v = .int i := by
  have := h.toV rfl; exact (Option.some.inj this).symm
theorem Rp.bl_inv {v : V} {b : Bool} (h : Rp K x G v (.bl b)) : v = .bl b := by
  have := h.toV rfl; exact (Option.some.inj this).symm
theorem Rp.str_inv {v : V} {z : Str} (h : Rp K x G v (.str z)) : v = .str z := by
  have := h.toV rfl; exact (Option.some.inj this).symm
theorem Rp.non_inv {v : V} (h : Rp K x G v .non) : v = .non := by
  have := h.toV rfl; exact (Option.some.inj this).symm
theorem Rp.lst_inv {v : V} {ds : List D} (h : Rp K x G v (.lst ds)) : ∃ a xs, v = .ref a ∧ SqLx K x G a xs ∧ RpL K x G xs ds := by
  cases h with
  | sc h => cases h
  | lst h r => exact ⟨_, _, rfl, h, r⟩
theorem Rp.tup_inv {v : V} {ds : List D} (h : Rp K x G v (.tup ds)) : ∃ a xs, v = .ref a ∧ SqTx K x G a xs ∧ RpL K x G xs ds := by
  cases h with
  | sc h => cases h
  | tup h r => exact ⟨_, _, rfl, h, r⟩
theorem Rp.int (i : Int) : Rp K x G (.int i) (.int i) := .sc rfl
theorem Rp.bl (b : Bool) : Rp K x G (.bl b) (.bl b) := .sc rfl
theorem Rp.str (z : Str) : Rp K x G (.str z) (.str z) := .sc rfl
theorem Rp.non : Rp K x G .non .non := .sc rfl
end
mutual
inductive Own (K : PySem.W.Frag) (Hn H : Hp) : List Addr → V → D → Prop
  | leaf {v : V} {d : D} : Rp K true Hn v d → Own K Hn H [] v d
  | lst {p : Addr} {F : List Addr} {xs : List V} {ds : List D} : H p = some (.lst xs) → OwnL K Hn H F xs ds → Own K Hn H (p :: F) (.ref p) (.lst ds)
  | tup {p : Addr} {F : List Addr} {xs : List V} {ds : List D} : H p = some (.tup xs) → OwnL K Hn H F xs ds → Own K Hn H (p :: F) (.ref p) (.tup ds)
  | dic {p : Addr} {F : List Addr} {ks : List Key} {vs : List V} {ds : List D} : H p = some (.dK (ks.zip vs)) → ks.length = vs.length → OwnL K Hn H F vs ds → Own K Hn H (p :: F) (.ref p) (.dic (ks.zip ds))
  | dit {p : Addr} {F : List Addr} {ks : List (List Key)} {vs : List V} {ds : List D} : H p = some (.dT (ks.zip vs)) → ks.length = vs.length → OwnL K Hn H F vs ds → Own K Hn H (p :: F) (.ref p) (.dit (ks.zip ds))
inductive OwnL (K : PySem.W.Frag) (Hn H : Hp) : List Addr → List V → List D → Prop
  | nil : OwnL K Hn H [] [] []
  | cons {F F' : List Addr} {v : V} {vs : List V} {d : D} {ds : List D} : Own K Hn H F v d → OwnL K Hn H F' vs ds → OwnL K Hn H (F ++ F') (v :: vs) (d :: ds)
end
section
variable {K : PySem.W.Frag} {Hn Hn' H H' : Hp}
mutual
theorem Own.keep (en : Ex Hn Hn') : ∀ {F : List Addr} {v : V} {d : D}, Own K Hn H F v d → (∀ a ∈ F, ∀ o, H a = some o → H' a = some o) → Own K Hn' H' F v d
  | _, _, _, .leaf h, _ => .leaf (h.mono en)
  | _, _, _, .lst h r, e => .lst (e _ List.mem_cons_self _ h) (OwnL.keep en r fun a m => e a (List.mem_cons_of_mem _ m))
  | _, _, _, .tup h r, e => .tup (e _ List.mem_cons_self _ h) (OwnL.keep en r fun a m => e a (List.mem_cons_of_mem _ m))
  | _, _, _, .dic h l r, e => .dic (e _ List.mem_cons_self _ h) l (OwnL.keep en r fun a m => e a (List.mem_cons_of_mem _ m))
  | _, _, _, .dit h l r, e => .dit (e _ List.mem_cons_self _ h) l (OwnL.keep en r fun a m => e a (List.mem_cons_of_mem _ m))
theorem OwnL.keep (en : Ex Hn Hn') : ∀ {F : List Addr} {vs : List V} {ds : List D}, OwnL K Hn H F vs ds → (∀ a ∈ F, ∀ o, H a = some o → H' a = some o) → OwnL K Hn' H' F vs ds
  | _, _, _, .nil, _ => .nil
  | _, _, _, .cons h r, e => .cons (Own.keep en h fun a m => e a (List.mem_append_left _ m)) (OwnL.keep en r fun a m => e a (List.mem_append_right _ m))
end
theorem Own.mono (en : Ex Hn Hn') (e : Ex H H') {F : List Addr} {v : V} {d : D} (h : Own K Hn H F v d) : Own K Hn' H' F v d := h.keep en fun a _ o q => e a o q
mutual
theorem Own.dom : ∀ {F : List Addr} {v : V} {d : D}, Own K Hn H F v d → ∀ a ∈ F, H a ≠ none
  | _, _, _, .leaf _, a, m => by cases m
  | _, _, _, .lst h r, a, m => by
    rcases List.mem_cons.mp m with rfl | m
    · rw [h]; exact fun z => by cases z
    · exact OwnL.dom r a m
  | _, _, _, .tup h r, a, m => by
    rcases List.mem_cons.mp m with rfl | m
    · rw [h]; exact fun z => by cases z
    · exact OwnL.dom r a m
  | _, _, _, .dic h l r, a, m => by
    rcases List.mem_cons.mp m with rfl | m
    · rw [h]; exact fun z => by cases z
    · exact OwnL.dom r a m
  | _, _, _, .dit h l r, a, m => by
    rcases List.mem_cons.mp m with rfl | m
    · rw [h]; exact fun z => by cases z
    · exact OwnL.dom r a m
theorem OwnL.dom : ∀ {F : List Addr} {vs : List V} {ds : List D}, OwnL K Hn H F vs ds → ∀ a ∈ F, H a ≠ none
  | _, _, _, .nil, a, m => by cases m
  | _, _, _, .cons h r, a, m => by
    rcases List.mem_append.mp m with m | m
    · exact Own.dom h a m
    · exact OwnL.dom r a m
end
mutual
/-- what is owned is read, in any heap that holds its objects -/
theorem Own.rp {G : Hp} (en : Ex Hn G) : ∀ {F : List Addr} {v : V} {d : D}, Own K Hn H F v d → (∀ a ∈ F, ∀ o, H a = some o → G a = some o) → Rp K true G v d
  | _, _, _, .leaf h, _ => h.mono en
  | _, _, _, .lst h r, e => .lst (e _ List.mem_cons_self _ h) (OwnL.rp en r fun a m => e a (List.mem_cons_of_mem _ m))
  | _, _, _, .tup h r, e => .tup (e _ List.mem_cons_self _ h) (OwnL.rp en r fun a m => e a (List.mem_cons_of_mem _ m))
  | _, _, _, .dic h l r, e => .dic (e _ List.mem_cons_self _ h) l (OwnL.rp en r fun a m => e a (List.mem_cons_of_mem _ m))
  | _, _, _, .dit h l r, e => .dit (.inl (e _ List.mem_cons_self _ h)) l (OwnL.rp en r fun a m => e a (List.mem_cons_of_mem _ m))
theorem OwnL.rp {G : Hp} (en : Ex Hn G) : ∀ {F : List Addr} {vs : List V} {ds : List D}, OwnL K Hn H F vs ds → (∀ a ∈ F, ∀ o, H a = some o → G a = some o) → RpL K true G vs ds
  | _, _, _, .nil, _ => .nil
  | _, _, _, .cons h r, e => .cons (Own.rp en h fun a m => e a (List.mem_append_left _ m)) (OwnL.rp en r fun a m => e a (List.mem_append_right _ m))
end
theorem ownL_of : ∀ {vs : List V} {ds : List D}, RpL K true Hn vs ds → OwnL K Hn H [] vs ds
  | _, _, .nil => .nil
  | _, _, .cons h r => OwnL.cons (F := []) (.leaf h) (ownL_of r)
theorem OwnL.leafs : ∀ {F : List Addr} {vs : List V} {ds : List D}, OwnL K Hn H F vs ds → F = [] → RpL K true Hn vs ds
  | _, _, _, .nil, _ => .nil
  | _, _, _, .cons (F := F1) h r, e => by
    obtain ⟨e1, e2⟩ := List.append_eq_nil_iff.mp e
    subst e1
    cases h with
    | leaf h => exact .cons h (OwnL.leafs r e2)
end
end MV
namespace MV
open PySem L2
abbrev PEnv := List (Option D)
inductive Res (α : Type) where
  | ok (a : α) (e : PEnv)
  | ex (c : Str) (e : PEnv)
  | stuck
abbrev M (α : Type) := PEnv → Res α
def bnd {α β : Type} (m : M α) (k : α → M β) : M β := fun e => match m e with
  | .ok a e' => k a e'
  | .ex c e' => .ex c e'
  | .stuck => .stuck
def ret {α : Type} (a : α) : M α := fun e => .ok a e
def lift {α : Type} (o : Option α) : M α := fun e => match o with
  | some a => .ok a e
  | none => .stuck
def fail {α : Type} : M α := fun _ => .stuck
inductive FR where
  | ok (d : D) (io : D)
  | ex (c : Str) (io : D)
  | stuck
inductive Fl where
  | nx
  | rt (d : D)
  | bk
  | ct
def envOf (n : Nat) (ds : List D) : PEnv := ds.map some ++ List.replicate (n - ds.length) none
def ioOf (e : PEnv) : D := match e with
  | some d :: _ => d
  | _ => .non
def runF (n : Nat) (g : M Fl) : List D → FR := fun ds => match g (envOf n ds) with
  | .ok (.rt d) e => .ok d (ioOf e)
  | .ok .nx e => .ok .non (ioOf e)
  | .ex c e => .ex c (ioOf e)
  | _ => .stuck
inductive Kd where
  | S | N | M | W | Q | P
  deriving DecidableEq
structure Cf where
  K : PySem.W.Frag
  kd : Nat → Kd
  cv : Str → Value
structure Rs where
  H0 : Hp
  io : Option Addr
def emp : Hp := fun _ => none
def TH (G : Hp) : Hp := fun a => match G a with
  | some (.tup xs) => some (.tup xs)
  | _ => none
theorem th_some {G : Hp} {a : Addr} {o : HO} (h : TH G a = some o) : ∃ xs, o = .tup xs ∧ G a = some (.tup xs) := by
  unfold TH at h
  split at h
  · rename_i xs q; cases h; exact ⟨xs, rfl, q⟩
  · cases h
theorem th_tup {G : Hp} {a : Addr} {xs : List V} (h : G a = some (.tup xs)) : TH G a = some (.tup xs) := by unfold TH; rw [h]
theorem th_mono {G G' : Hp} (e : Ex G G') : Ex (TH G) (TH G') := fun a o h => by
  obtain ⟨xs, rfl, q⟩ := th_some h
  exact th_tup (e _ _ q)
def SlotR (K : PySem.W.Frag) (R : Rs) (Hs H : Hp) (F : List Addr) : Kd → V → D → Prop
  | .Q, v, d => Rp K false Hs v d
  | .S, v, d => Rp K true Hs v d
  | .P, v, d => Own K (TH (rs Hs R.H0)) H F v d
  | .N, v, d => Rp K true (rs Hs R.H0) v d
  | .M, v, d => Own K (rs Hs R.H0) H F v d ∧ (F = [] → d.sc = true) ∧ F.length ≤ 1
  | .W, v, d => ∃ p xs ds, v = .ref p ∧ d = .lst ds ∧ F = [p] ∧ H p = some (.lst xs) ∧ ds.all D.sc = true ∧ RpL K true emp xs ds
structure Rel (cf : Cf) (R : Rs) (Hs : Hp) (env : PEnv) (σ : L2.St) (H : Hp) (F : Nat → List Addr) (wf : List Addr) : Prop where
  len : env.length = σ.length
  exs : Ex Hs H
  ex0 : ∀ a o, R.H0 a = some o → R.io ≠ some a → Hs a = some o
  dom0 : ∀ a, R.H0 a ≠ none → H a ≠ none
  slot : ∀ i d, env[i]? = some (some d) → ∃ v, σ[i]? = some (some v) ∧ SlotR cf.K R Hs H (F i) (cf.kd i) v d
  nod : ∀ i, (F i).Nodup
  dis : ∀ i j, i ≠ j → ∀ a, a ∈ F i → a ∉ F j
  fdom : ∀ i a, a ∈ F i → H a ≠ none
  uns : ∀ i a, a ∈ F i → Hs a = none
  new : ∀ i a, a ∈ F i → R.io = some a ∨ R.H0 a = none
  volw : ∀ i, cf.kd i = .W → ∀ a, a ∈ F i → a ∈ wf
  volb : ∀ i, cf.kd i ≠ .W → ∀ a, a ∈ F i → a ∉ wf
  wdom : ∀ a, a ∈ wf → H a ≠ none ∧ Hs a = none
  ior : ∀ p, R.io = some p → σ[0]? = some (some (.ref p)) ∧ F 0 = [p] ∧ cf.kd 0 = .W ∧ ∃ d, env[0]? = some (some d)
inductive Cls where
  | V | N | S | L | B
def rg (c : Cls) (H0 Hs Hst H : Hp) (wf : List Addr) : Hp := match c with
  | .V => rs Hs Hst
  | .N => rs Hs H0
  | .S => Hs
  | .L => rs (rm H wf) H0
  | .B => rm H wf
structure Stp (cf : Cf) (wf : List Addr) (env : PEnv) (Hs H : Hp) (env' : PEnv) (Hs' H' : Hp) : Prop where
  dom : ∀ a, H a ≠ none → H' a ≠ none
  ex : Ex Hs Hs'
  keep : ∀ a o, a ∉ wf → H a = some o → H' a = some o
  same : ∀ a, H a ≠ none → Hs' a = Hs a
  kp : ∀ i, cf.kd i ≠ .W → env'[i]? = env[i]?
section
variable {cf : Cf} {wf : List Addr} {env env1 env2 : PEnv} {Hs H Hs1 H1 Hs2 H2 H' : Hp}
theorem Stp.refl : Stp cf wf env Hs H env Hs H := ⟨fun _ h => h, Ex.refl _, fun _ _ _ h => h, fun _ _ => rfl, fun _ _ => rfl⟩
theorem Stp.trans (a : Stp cf wf env Hs H env1 Hs1 H1) (b : Stp cf wf env1 Hs1 H1 env2 Hs2 H2) : Stp cf wf env Hs H env2 Hs2 H2 :=
  ⟨fun x h => b.dom x (a.dom x h), a.ex.trans b.ex, fun x o hw h => b.keep x o hw (a.keep x o hw h), fun x h => (b.same x (a.dom x h)).trans (a.same x h), fun i h => (b.kp i h).trans (a.kp i h)⟩
theorem Stp.grow (e : Ex Hs H) (x : Ex H H') : Stp cf wf env Hs H env (grow Hs H H') H' :=
  ⟨fun a h => x.dom h, Ex.grow e x, fun a o _ h => x a o h, fun a h => by
    cases q : H a with
    | none => exact absurd q h
    | some o => exact grow_some q, fun _ _ => rfl⟩
end
theorem rg_step {c : Cls} {H0 Hs Hst H Hs' H' : Hp} {wf : List Addr} {cf : Cf} {env env' : PEnv} (s : Stp cf wf env Hs H env' Hs' H') : Ex (rg c H0 Hs Hst H wf) (rg c H0 Hs' Hst H' wf) := by
  have hb : Ex (rm H wf) (rm H' wf) := fun a o h => by
    unfold rm at h ⊢
    split at h
    · cases h
    · rename_i hw; rw [if_neg hw]; exact s.keep a o hw h
  cases c with
  | V => exact rs_mono s.ex
  | N => exact rs_mono s.ex
  | S => exact s.ex
  | L => exact rs_mono hb
  | B => exact hb
theorem rg_start {c : Cls} {H0 Hs Hst Hst' H : Hp} {wf : List Addr} (d : ∀ a, Hst a ≠ none → Hst' a ≠ none) : Ex (rg c H0 Hs Hst' H wf) (rg c H0 Hs Hst H wf) := by
  cases c with
  | V =>
    intro a o h
    have h : rs Hs Hst' a = some o := h
    show rs Hs Hst a = some o
    cases q : Hst a with
    | none =>
      rw [rs_none q]
      exact rs_sub _ _ a o h
    | some u =>
      have : Hst' a ≠ none := d a (by rw [q]; exact fun z => by cases z)
      cases q' : Hst' a with
      | none => exact absurd q' this
      | some u' => rw [rs_some q'] at h; cases h
  | N => exact Ex.refl _
  | S => exact Ex.refl _
  | L => exact Ex.refl _
  | B => exact Ex.refl _
theorem rg_sub {c : Cls} {H0 Hs Hst H : Hp} {wf : List Addr} (e : Ex Hs H) : Ex (rg c H0 Hs Hst H wf) H := by
  cases c with
  | V => exact (rs_sub _ _).trans e
  | N => exact (rs_sub _ _).trans e
  | S => exact e
  | L => exact (rs_sub _ _).trans (rm_sub _ _)
  | B => exact rm_sub _ _
theorem rg_grow {c : Cls} {H0 Hs Hst H H' : Hp} {wf : List Addr} (d0 : ∀ a, H0 a ≠ none → H a ≠ none) (ds : ∀ a, Hst a ≠ none → H a ≠ none) (dw : ∀ a, a ∈ wf → H a ≠ none) (es : Ex Hs H) (x : Ex H H') :
    Ex (grow (rg c H0 Hs Hst H wf) H H') (rg c H0 (grow Hs H H') Hst H' wf) := by
  intro a o h
  cases q : H a with
  | none =>
    rw [grow_none q] at h
    have h0 : H0 a = none := by
      cases z : H0 a with
      | none => rfl
      | some u => exact absurd q (d0 a (by rw [z]; exact fun y => by cases y))
    have hs : Hst a = none := by
      cases z : Hst a with
      | none => rfl
      | some u => exact absurd q (ds a (by rw [z]; exact fun y => by cases y))
    have hw : a ∉ wf := fun m => dw a m q
    cases c with
    | V => show rs (grow Hs H H') Hst a = some o; rw [rs_none hs, grow_none q]; exact h
    | N => show rs (grow Hs H H') H0 a = some o; rw [rs_none h0, grow_none q]; exact h
    | S => show grow Hs H H' a = some o; rw [grow_none q]; exact h
    | L => show rs (rm H' wf) H0 a = some o; rw [rs_none h0]; unfold rm; rw [if_neg hw]; exact h
    | B => show rm H' wf a = some o; unfold rm; rw [if_neg hw]; exact h
  | some u =>
    rw [grow_some q] at h
    exact rg_step (cf := ⟨default, fun _ => .S, fun _ => .none⟩) (env := []) (Stp.grow es x) a o h
inductive Cls.Le : Cls → Cls → Prop
  | rfl (c) : Cls.Le c c
  | vn : Cls.Le .V .N
  | vs : Cls.Le .V .S
  | vl : Cls.Le .V .L
  | vb : Cls.Le .V .B
  | ns : Cls.Le .N .S
  | nl : Cls.Le .N .L
  | nb : Cls.Le .N .B
  | sb : Cls.Le .S .B
  | lb : Cls.Le .L .B
theorem rg_le {c c' : Cls} (l : Cls.Le c c') {H0 Hs Hst H : Hp} {wf : List Addr} (es : Ex Hs H) (d0 : ∀ a, H0 a ≠ none → Hst a ≠ none) (w : ∀ a, a ∈ wf → Hs a = none) : Ex (rg c H0 Hs Hst H wf) (rg c' H0 Hs Hst H wf) := by
  have sb : Ex Hs (rm H wf) := fun a o h => by
    unfold rm
    rw [if_neg (fun m => by rw [w a m] at h; cases h)]
    exact es a o h
  have vn : Ex (rs Hs Hst) (rs Hs H0) := fun a o h => by
    cases q : H0 a with
    | none => rw [rs_none q]; exact rs_sub _ _ a o h
    | some u =>
      have : Hst a ≠ none := d0 a (by rw [q]; exact fun y => by cases y)
      cases q' : Hst a with
      | none => exact absurd q' this
      | some u' => rw [rs_some q'] at h; cases h
  have nl : Ex (rs Hs H0) (rs (rm H wf) H0) := rs_mono sb
  cases l with
  | rfl => exact Ex.refl _
  | vn => exact vn
  | vs => exact vn.trans (rs_sub _ _)
  | vl => exact vn.trans nl
  | vb => exact (vn.trans nl).trans (rs_sub _ _)
  | ns => exact rs_sub _ _
  | nl => exact nl
  | nb => exact nl.trans (rs_sub _ _)
  | sb => exact sb
  | lb => exact rs_sub _ _
section
variable {cf : Cf} {R : Rs} {Hs H H' : Hp} {env : PEnv} {σ : L2.St} {F : Nat → List Addr} {wf : List Addr}
theorem Rel.grow (r : Rel cf R Hs env σ H F wf) (x : Ex H H') : Rel cf R (grow Hs H H') env σ H' F wf where
  len := r.len
  exs := grow_sub r.exs x
  ex0 := fun a o h n => (Ex.grow r.exs x) a o (r.ex0 a o h n)
  dom0 := fun a h => x.dom (r.dom0 a h)
  slot := fun i d h => by
    obtain ⟨v, h1, h2⟩ := r.slot i d h
    refine ⟨v, h1, ?_⟩
    cases q : cf.kd i with
    | S => rw [q] at h2; exact Rp.mono (Ex.grow r.exs x) h2
    | Q => rw [q] at h2; exact Rp.mono (Ex.grow r.exs x) h2
    | P => rw [q] at h2; exact Own.mono (th_mono (rs_mono (Ex.grow r.exs x))) x h2
    | N => rw [q] at h2; exact Rp.mono (rs_mono (Ex.grow r.exs x)) h2
    | M => rw [q] at h2; exact ⟨Own.mono (rs_mono (Ex.grow r.exs x)) x h2.1, h2.2⟩
    | W =>
      rw [q] at h2
      obtain ⟨p, xs, ds, e1, e2, e3, e4, e5⟩ := h2
      exact ⟨p, xs, ds, e1, e2, e3, x _ _ e4, e5⟩
  nod := r.nod
  dis := r.dis
  fdom := fun i a h => x.dom (r.fdom i a h)
  uns := fun i a h => by
    have hd := r.fdom i a h
    cases q : H a with
    | none => exact absurd q hd
    | some o => rw [grow_some q]; exact r.uns i a h
  new := r.new
  volw := r.volw
  volb := r.volb
  wdom := fun a h => by
    obtain ⟨h1, h2⟩ := r.wdom a h
    refine ⟨x.dom h1, ?_⟩
    cases q : H a with
    | none => exact absurd q h1
    | some o => rw [grow_some q]; exact h2
  ior := r.ior
end
def Nr (K : PySem.W.Frag) (n : Bool) (Hst Hs' : Hp) (v : V) (d : D) : Prop := n = true → d.flat = true → Rp K true (rs Hs' Hst) v d
def Sd (cf : Cf) (W : WX) (c : Cls) (n : Bool) (te : TE) (f : M D) : Prop :=
  ∀ (R : Rs) (Hs : Hp) (env : PEnv) (σ : L2.St) (H : Hp) (F : Nat → List Addr) (wf : List Addr), Rel cf R Hs env σ H F wf → ∀ Q : VK,
    match f env with
    | .ok d env' => (∀ v Hs' H', Stp cf wf env Hs H env' Hs' H' → Rel cf R Hs' env' σ H' F wf → Rp cf.K true (rg c R.H0 Hs' H H' wf) v d → Nr cf.K n H Hs' v d → Q v H') → te σ H Q
    | .ex x env' => (∀ Hs' H', Stp cf wf env Hs H env' Hs' H' → Rel cf R Hs' env' σ H' F wf → W (cf.cv x) none σ H') → te σ H Q
    | .stuck => True
def SdT (cf : Cf) (W : WX) (tt : TT) (f : M Bool) : Prop :=
  ∀ (R : Rs) (Hs : Hp) (env : PEnv) (σ : L2.St) (H : Hp) (F : Nat → List Addr) (wf : List Addr), Rel cf R Hs env σ H F wf → ∀ Q : Bool → Hp → Prop,
    match f env with
    | .ok b env' => (∀ Hs' H', Stp cf wf env Hs H env' Hs' H' → Rel cf R Hs' env' σ H' F wf → Q b H') → tt σ H Q
    | .ex x env' => (∀ Hs' H', Stp cf wf env Hs H env' Hs' H' → Rel cf R Hs' env' σ H' F wf → W (cf.cv x) none σ H') → tt σ H Q
    | .stuck => True
def SdA (cf : Cf) (W : WX) (c : Cls) (ta : TA) (f : M (List D)) : Prop :=
  ∀ (R : Rs) (Hs : Hp) (env : PEnv) (σ : L2.St) (H : Hp) (F : Nat → List Addr) (wf : List Addr), Rel cf R Hs env σ H F wf → ∀ Q : List V → Hp → Prop,
    match f env with
    | .ok ds env' => (∀ vs Hs' H', Stp cf wf env Hs H env' Hs' H' → Rel cf R Hs' env' σ H' F wf → RpL cf.K true (rg c R.H0 Hs' H H' wf) vs ds → Q vs H') → ta σ H Q
    | .ex x env' => (∀ Hs' H', Stp cf wf env Hs H env' Hs' H' → Rel cf R Hs' env' σ H' F wf → W (cf.cv x) none σ H') → ta σ H Q
    | .stuck => True
def Post (cf : Cf) (W : WX) (R : Rs) (Hs : Hp) (D : Ends) : Res Fl → Prop
  | .ok .nx env' => ∀ Hs' σ' H' F' wf', Ex Hs Hs' → Rel cf R Hs' env' σ' H' F' wf' → D.nx σ' H'
  | .ok (.rt d) env' => ∀ v Hs' σ' H' F' wf', Ex Hs Hs' → Rel cf R Hs' env' σ' H' F' wf' → Rp cf.K true (rs (rm H' wf') R.H0) v d → D.rt v H'
  | .ok .bk env' => ∀ Hs' σ' H' F' wf', Ex Hs Hs' → Rel cf R Hs' env' σ' H' F' wf' → D.bk σ' H'
  | .ok .ct env' => ∀ Hs' σ' H' F' wf', Ex Hs Hs' → Rel cf R Hs' env' σ' H' F' wf' → D.ct σ' H'
  | .ex x env' => ∀ Hs' σ' H' F' wf', Ex Hs Hs' → Rel cf R Hs' env' σ' H' F' wf' → W (cf.cv x) none σ' H'
  | .stuck => False
def SdS (cf : Cf) (W : WX) (ts : TS) (g : M Fl) : Prop :=
  ∀ (R : Rs) (Hs : Hp) (env : PEnv) (σ : L2.St) (H : Hp) (F : Nat → List Addr) (wf : List Addr), Rel cf R Hs env σ H F wf → ∀ D : Ends, Post cf W R Hs D (g env) → ts D σ H
structure SE (X : Cx) (cf : Cf) (W : WX) (c : Cls) (n : Bool) (e : Expr) (t : TE) (f : M D) : Prop where
  p : PE X e t
  s : Sd cf W c n t f
structure ST (X : Cx) (cf : Cf) (W : WX) (e : Expr) (t : TT) (f : M Bool) : Prop where
  p : PT X e t
  s : SdT cf W t f
structure SW (X : Cx) (cf : Cf) (W : WX) (e : Expr) (t : TT) (f : M Bool) : Prop where
  p : PW X e t
  s : SdT cf W t f
structure SA (X : Cx) (cf : Cf) (W : WX) (c : Cls) (es : List Expr) (t : TA) (f : M (List D)) : Prop where
  p : PA X es t
  s : SdA cf W c t f
def SS (X : Cx) (cf : Cf) (W : WX) (st : Stmt) (g : M Fl) : Prop := ∃ t, PS X st t ∧ SdS cf W t g
def SSs (X : Cx) (cf : Cf) (W : WX) (st : List Stmt) (g : M Fl) : Prop := ∃ t, PSs X st t ∧ SdS cf W t g
theorem Sd.le {cf : Cf} {W : WX} {c c' : Cls} {n : Bool} {te : TE} {f : M D} (h : Sd cf W c n te f) (l : Cls.Le c c') : Sd cf W c' n te f := by
  intro R Hs env σ H F wf r Q
  have h := h R Hs env σ H F wf r Q
  cases q : f env with
  | ok d env' =>
    rw [q] at h
    intro k
    refine h fun v Hs' H' s r' p nr => k v Hs' H' s r' (p.mono (rg_le l r'.exs r.dom0 fun a m => (r'.wdom a m).2)) nr
  | ex x env' => rw [q] at h; exact h
  | stuck => trivial
theorem SE.le {X : Cx} {cf : Cf} {W : WX} {c c' : Cls} {n : Bool} {e : Expr} {te : TE} {f : M D} (h : SE X cf W c n e te f) (l : Cls.Le c c') : SE X cf W c' n e te f := ⟨h.p, h.s.le l⟩
theorem Cls.leB (c : Cls) : Cls.Le c .B := by
  cases c with
  | V => exact .vb
  | N => exact .nb
  | S => exact .sb
  | L => exact .lb
  | B => exact .rfl _
theorem Sd.b {cf : Cf} {W : WX} {c : Cls} {n : Bool} {te : TE} {f : M D} (h : Sd cf W c n te f) : Sd cf W .B n te f := h.le (Cls.leB c)
theorem SE.b {X : Cx} {cf : Cf} {W : WX} {c : Cls} {n : Bool} {e : Expr} {te : TE} {f : M D} (h : SE X cf W c n e te f) : SE X cf W .B n e te f := h.le (Cls.leB c)
def ScF (f : M D) : Prop := ∀ env d env', f env = .ok d env' → d.sc = true
theorem Sd.low {cf : Cf} {W : WX} {c c' : Cls} {n n' : Bool} {te : TE} {f : M D} (s : Sd cf W c n te f) (hs : ScF f) : Sd cf W c' n' te f := by
  intro R Hs env σ H F wf r Q
  have h := s R Hs env σ H F wf r Q
  cases q : f env with
  | ok d env' =>
    rw [q] at h
    exact fun k => h fun v Hs' H' st r' p nr => k v Hs' H' st r' (p.sc_any (hs _ _ _ q) _ _) fun _ _ => p.sc_any (hs _ _ _ q) _ _
  | ex x env' => rw [q] at h; exact h
  | stuck => trivial
theorem SE.low {X : Cx} {cf : Cf} {W : WX} {c c' : Cls} {n n' : Bool} {e : Expr} {te : TE} {f : M D} (h : SE X cf W c n e te f) (hs : ScF f) : SE X cf W c' n' e te f := ⟨h.p, h.s.low hs⟩
def eF (f : M D) : M D := bnd f fun d => lift (if d.flat then some d else none)
theorem SE.flat {X : Cx} {cf : Cf} {W : WX} {c : Cls} {e : Expr} {te : TE} {f : M D} (h : SE X cf W c true e te f) : SE X cf W .V true e te (eF f) := by
  obtain ⟨p, s⟩ := h
  refine ⟨p, fun R Hs env σ H F wf r Q => ?_⟩
  have h := s R Hs env σ H F wf r Q
  cases q : f env with
  | ok d env' =>
    rw [q] at h
    cases hf : d.flat with
    | true =>
      have e1 : eF f env = .ok d env' := by simp [eF, bnd, lift, q, hf]
      rw [e1]
      exact fun k => h fun v Hs' H' st r' p nr => k v Hs' H' st r' (nr rfl hf) nr
    | false =>
      have e1 : eF f env = .stuck := by simp [eF, bnd, lift, q, hf]
      rw [e1]
      trivial
  | ex x env' =>
    rw [q] at h
    have e1 : eF f env = .ex x env' := by simp [eF, bnd, q]
    rw [e1]
    exact h
  | stuck =>
    have e1 : eF f env = .stuck := by simp [eF, bnd, q]
    rw [e1]
    trivial
end MV
namespace MV
open PySem L2
section
variable {α β : Type} {m : M α} {k : α → M β} {e e' : PEnv} {b : β} {a : α} {x : Str} {o : Option α}
theorem bnd_ok (h : bnd m k e = .ok b e') : ∃ a e1, m e = .ok a e1 ∧ k a e1 = .ok b e' := by
  unfold bnd at h
  cases q : m e with
  | ok a e1 => rw [q] at h; exact ⟨a, e1, rfl, h⟩
  | ex c e1 => rw [q] at h; cases h
  | stuck => rw [q] at h; cases h
theorem bnd_ex (h : bnd m k e = .ex x e') : m e = .ex x e' ∨ ∃ a e1, m e = .ok a e1 ∧ k a e1 = .ex x e' := by
  unfold bnd at h
  cases q : m e with
  | ok a e1 => rw [q] at h; exact .inr ⟨a, e1, rfl, h⟩
  | ex c e1 => rw [q] at h; exact .inl (show Res.ex c e1 = Res.ex x e' from by cases h; rfl)
  | stuck => rw [q] at h; cases h
theorem bnd_of_ok {e1 : PEnv} (h : m e = .ok a e1) : bnd m k e = k a e1 := by unfold bnd; rw [h]
theorem bnd_of_ex {e1 : PEnv} (h : m e = .ex x e1) : bnd m k e = .ex x e1 := by unfold bnd; rw [h]
theorem bnd_of_stuck (h : m e = .stuck) : bnd m k e = .stuck := by unfold bnd; rw [h]
theorem lift_ok (h : lift o e = .ok a e') : o = some a ∧ e' = e := by
  unfold lift at h
  cases o with
  | none => cases h
  | some z => cases h; exact ⟨rfl, rfl⟩
theorem lift_ex (h : lift o e = .ex x e') : False := by
  unfold lift at h
  cases o with
  | none => cases h
  | some z => cases h
end
section
variable {cf : Cf} {W : WX} {c : Cls} {n : Bool} {te : TE} {f : M D} {R : Rs} {Hs : Hp} {env env' : PEnv} {σ : L2.St} {H : Hp} {F : Nat → List Addr} {wf : List Addr}
theorem Sd.ok (s : Sd cf W c n te f) (r : Rel cf R Hs env σ H F wf) {d : D} (q : f env = .ok d env') {Q : VK} (k : ∀ v Hs' H', Stp cf wf env Hs H env' Hs' H' → Rel cf R Hs' env' σ H' F wf → Rp cf.K true (rg c R.H0 Hs' H H' wf) v d → Nr cf.K n H Hs' v d → Q v H') : te σ H Q := by
  have h := s R Hs env σ H F wf r Q
  rw [q] at h
  exact h k
theorem Sd.exn (s : Sd cf W c n te f) (r : Rel cf R Hs env σ H F wf) {x : Str} (q : f env = .ex x env') {Q : VK} (k : ∀ Hs' H', Stp cf wf env Hs H env' Hs' H' → Rel cf R Hs' env' σ H' F wf → W (cf.cv x) none σ H') : te σ H Q := by
  have h := s R Hs env σ H F wf r Q
  rw [q] at h
  exact h k
theorem Sd.mk (h1 : ∀ R Hs env σ H F wf, Rel cf R Hs env σ H F wf → ∀ d env', f env = .ok d env' → ∀ Q : VK, (∀ v Hs' H', Stp cf wf env Hs H env' Hs' H' → Rel cf R Hs' env' σ H' F wf → Rp cf.K true (rg c R.H0 Hs' H H' wf) v d → Nr cf.K n H Hs' v d → Q v H') → te σ H Q)
    (h2 : ∀ R Hs env σ H F wf, Rel cf R Hs env σ H F wf → ∀ x env', f env = .ex x env' → ∀ Q : VK, (∀ Hs' H', Stp cf wf env Hs H env' Hs' H' → Rel cf R Hs' env' σ H' F wf → W (cf.cv x) none σ H') → te σ H Q) : Sd cf W c n te f := by
  intro R Hs env σ H F wf r Q
  cases q : f env with
  | ok d env' => exact h1 R Hs env σ H F wf r d env' q Q
  | ex x env' => exact h2 R Hs env σ H F wf r x env' q Q
  | stuck => trivial
theorem SdT.ok {tt : TT} {f : M Bool} (s : SdT cf W tt f) (r : Rel cf R Hs env σ H F wf) {d : Bool} (q : f env = .ok d env') {Q : Bool → Hp → Prop} (k : ∀ Hs' H', Stp cf wf env Hs H env' Hs' H' → Rel cf R Hs' env' σ H' F wf → Q d H') : tt σ H Q := by
  have h := s R Hs env σ H F wf r Q
  rw [q] at h
  exact h k
theorem SdT.exn {tt : TT} {f : M Bool} (s : SdT cf W tt f) (r : Rel cf R Hs env σ H F wf) {x : Str} (q : f env = .ex x env') {Q : Bool → Hp → Prop} (k : ∀ Hs' H', Stp cf wf env Hs H env' Hs' H' → Rel cf R Hs' env' σ H' F wf → W (cf.cv x) none σ H') : tt σ H Q := by
  have h := s R Hs env σ H F wf r Q
  rw [q] at h
  exact h k
theorem SdT.mk {tt : TT} {f : M Bool} (h1 : ∀ R Hs env σ H F wf, Rel cf R Hs env σ H F wf → ∀ d env', f env = .ok d env' → ∀ Q : Bool → Hp → Prop, (∀ Hs' H', Stp cf wf env Hs H env' Hs' H' → Rel cf R Hs' env' σ H' F wf → Q d H') → tt σ H Q)
    (h2 : ∀ R Hs env σ H F wf, Rel cf R Hs env σ H F wf → ∀ x env', f env = .ex x env' → ∀ Q : Bool → Hp → Prop, (∀ Hs' H', Stp cf wf env Hs H env' Hs' H' → Rel cf R Hs' env' σ H' F wf → W (cf.cv x) none σ H') → tt σ H Q) : SdT cf W tt f := by
  intro R Hs env σ H F wf r Q
  cases q : f env with
  | ok d env' => exact h1 R Hs env σ H F wf r d env' q Q
  | ex x env' => exact h2 R Hs env σ H F wf r x env' q Q
  | stuck => trivial
theorem SdA.ok {ta : TA} {f : M (List D)} (s : SdA cf W c ta f) (r : Rel cf R Hs env σ H F wf) {d : List D} (q : f env = .ok d env') {Q : List V → Hp → Prop} (k : ∀ vs Hs' H', Stp cf wf env Hs H env' Hs' H' → Rel cf R Hs' env' σ H' F wf → RpL cf.K true (rg c R.H0 Hs' H H' wf) vs d → Q vs H') : ta σ H Q := by
  have h := s R Hs env σ H F wf r Q
  rw [q] at h
  exact h k
theorem SdA.exn {ta : TA} {f : M (List D)} (s : SdA cf W c ta f) (r : Rel cf R Hs env σ H F wf) {x : Str} (q : f env = .ex x env') {Q : List V → Hp → Prop} (k : ∀ Hs' H', Stp cf wf env Hs H env' Hs' H' → Rel cf R Hs' env' σ H' F wf → W (cf.cv x) none σ H') : ta σ H Q := by
  have h := s R Hs env σ H F wf r Q
  rw [q] at h
  exact h k
theorem SdA.mk {ta : TA} {f : M (List D)} (h1 : ∀ R Hs env σ H F wf, Rel cf R Hs env σ H F wf → ∀ d env', f env = .ok d env' → ∀ Q : List V → Hp → Prop, (∀ vs Hs' H', Stp cf wf env Hs H env' Hs' H' → Rel cf R Hs' env' σ H' F wf → RpL cf.K true (rg c R.H0 Hs' H H' wf) vs d → Q vs H') → ta σ H Q)
    (h2 : ∀ R Hs env σ H F wf, Rel cf R Hs env σ H F wf → ∀ x env', f env = .ex x env' → ∀ Q : List V → Hp → Prop, (∀ Hs' H', Stp cf wf env Hs H env' Hs' H' → Rel cf R Hs' env' σ H' F wf → W (cf.cv x) none σ H') → ta σ H Q) : SdA cf W c ta f := by
  intro R Hs env σ H F wf r Q
  cases q : f env with
  | ok d env' => exact h1 R Hs env σ H F wf r d env' q Q
  | ex x env' => exact h2 R Hs env σ H F wf r x env' q Q
  | stuck => trivial
end
def eV (i : Nat) : M D := fun e => match e[i]? with
  | some (some d) => .ok d e
  | _ => .stuck
def eC (d : D) : M D := fun e => .ok d e
theorem eV_ok {i : Nat} {e e' : PEnv} {d : D} (h : eV i e = .ok d e') : e[i]? = some (some d) ∧ e' = e := by
  unfold eV at h
  split at h
  · rename_i d' q; cases h; exact ⟨q, rfl⟩
  · cases h
theorem eV_ex {i : Nat} {e e' : PEnv} {x : Str} (h : eV i e = .ex x e') : False := by
  unfold eV at h
  split at h <;> cases h
section
variable {X : Cx} {cf : Cf} {W : WX}
theorem sd_var {c : Cls} {i : Nat} (hk : ∀ R Hs env σ H F wf, Rel cf R Hs env σ H F wf → ∀ v d, SlotR cf.K R Hs H (F i) (cf.kd i) v d → Rp cf.K true (rg c R.H0 Hs H H wf) v d) : Sd cf W c false (tVar i) (eV i) := by
  refine Sd.mk (fun R Hs env σ H F wf r d env' q Q k => ?_) (fun _ _ _ _ _ _ _ _ _ _ q => (eV_ex q).elim)
  obtain ⟨q, rfl⟩ := eV_ok q
  obtain ⟨v, hv, hs⟩ := r.slot i d q
  exact ⟨v, hv, k v Hs H Stp.refl r (hk R Hs env' σ H F wf r v d hs) fun z => by cases z⟩
theorem se_vS (i : Nat) {e : Expr} (p : PE X e (tVar i)) (hk : cf.kd i = .S) : SE X cf W .S false e (tVar i) (eV i) := ⟨p, sd_var fun R Hs env σ H F wf r v d h => by rw [hk] at h; exact h⟩
theorem se_vN (i : Nat) {e : Expr} (p : PE X e (tVar i)) (hk : cf.kd i = .N) : SE X cf W .N false e (tVar i) (eV i) := ⟨p, sd_var fun R Hs env σ H F wf r v d h => by rw [hk] at h; exact h⟩
theorem Rel.mL {R : Rs} {Hs : Hp} {env : PEnv} {σ : L2.St} {H : Hp} {F : Nat → List Addr} {wf : List Addr} (r : Rel cf R Hs env σ H F wf) {i : Nat} (hk : cf.kd i ≠ .W) : ∀ a ∈ F i, ∀ o, H a = some o → rs (rm H wf) R.H0 a = some o := fun a m o h => by
  have h0 : R.H0 a = none := by
    rcases r.new i a m with z | z
    · obtain ⟨_, hF, hw, _⟩ := r.ior a z
      by_cases e : i = 0
      · subst e; exact absurd hw hk
      · exact absurd (by rw [hF]; exact List.mem_singleton.mpr rfl) (r.dis i 0 e a m)
    · exact z
  rw [rs_none h0]
  unfold rm
  rw [if_neg (r.volb i hk a m)]
  exact h
theorem Rel.nL {R : Rs} {Hs : Hp} {env : PEnv} {σ : L2.St} {H : Hp} {F : Nat → List Addr} {wf : List Addr} (r : Rel cf R Hs env σ H F wf) : Ex (rs Hs R.H0) (rs (rm H wf) R.H0) :=
  rg_le (c := .N) (c' := .L) .nl (Hst := H) r.exs r.dom0 fun a m => (r.wdom a m).2
theorem se_vM (i : Nat) {e : Expr} (p : PE X e (tVar i)) (hk : cf.kd i = .M) : SE X cf W .L false e (tVar i) (eV i) := ⟨p, sd_var fun R Hs env σ H F wf r v d h => by
  rw [hk] at h
  exact Own.rp r.nL h.1 (r.mL (by rw [hk]; exact fun z => by cases z))⟩
theorem sd_C {v : V} {d : D} (h : d.toV = some v) : Sd cf W .V true (tC v) (eC d) :=
  Sd.mk (fun R Hs env σ H F wf r d' env' q Q k => by cases q; exact k v Hs H Stp.refl r (.sc h) fun _ _ => .sc h) (fun _ _ _ _ _ _ _ _ _ _ q => by cases q)
theorem se_int {i : Int} {j : Nat} {pos : Pos} : SE X cf W .V true (.Constant (.int i) j pos) (tC (.int i)) (eC (.int i)) := ⟨pe_int, sd_C rfl⟩
theorem se_bl {b : Bool} {j : Nat} {pos : Pos} : SE X cf W .V true (.Constant (.bool b) j pos) (tC (.bl b)) (eC (.bl b)) := ⟨pe_bl, sd_C rfl⟩
theorem se_str {x : Str} {j : Nat} {pos : Pos} : SE X cf W .V true (.Constant (.str x) j pos) (tC (.str x)) (eC (.str x)) := ⟨pe_str, sd_C rfl⟩
theorem se_glob {e : Expr} {v : V} {d : D} (p : PE X e (tC v)) (h : d.toV = some v) : SE X cf W .V true e (tC v) (eC d) := ⟨p, sd_C h⟩
end
def e1 (g : D → Option D) (a : M D) : M D := bnd a fun x => lift (g x)
def e2 (g : D → D → Option D) (a b : M D) : M D := bnd a fun x => bnd b fun y => lift (g x y)
def eN (g : List D → Option D) (a : M (List D)) : M D := bnd a fun x => lift (g x)
def aNil : M (List D) := ret []
def aCons (a : M D) (r : M (List D)) : M (List D) := bnd a fun x => bnd r fun xs => ret (x :: xs)
def Nn (K : PySem.W.Frag) (n : Bool) (H H' : Hp) (v : V) (d : D) : Prop := n = true → d.flat = true → Rp K true (nw H H') v d
def Snd1 (K : PySem.W.Frag) (n : Bool) (r : V → Hp → VK → Prop) (g : D → Option D) : Prop := ∀ (G H : Hp) (x : V) (d1 d : D), Ex G H → Rp K true G x d1 → g d1 = some d → ∀ Q : VK, (∀ v H', Ex H H' → Rp K true (grow G H H') v d → Nn K n H H' v d → Q v H') → r x H Q
def Snd2 (K : PySem.W.Frag) (n : Bool) (r : R2) (g : D → D → Option D) : Prop := ∀ (G H : Hp) (x y : V) (d1 d2 d : D), Ex G H → Rp K true G x d1 → Rp K true G y d2 → g d1 d2 = some d → ∀ Q : VK, (∀ v H', Ex H H' → Rp K true (grow G H H') v d → Nn K n H H' v d → Q v H') → r x y H Q
def SndN (K : PySem.W.Frag) (n : Bool) (r : List V → Hp → VK → Prop) (g : List D → Option D) : Prop := ∀ (G H : Hp) (xs : List V) (ds : List D) (d : D), Ex G H → RpL K true G xs ds → g ds = some d → ∀ Q : VK, (∀ v H', Ex H H' → Rp K true (grow G H H') v d → Nn K n H H' v d → Q v H') → r xs H Q
theorem nr_of {K : PySem.W.Frag} {n : Bool} {Hst Hs H H' : Hp} {v : V} {d : D} (ds : ∀ a, Hst a ≠ none → H a ≠ none) (h : Nn K n H H' v d) : Nr K n Hst (grow Hs H H') v d := fun z hf => (h z hf).mono fun a o q => by
  cases e : H a with
  | none =>
    rw [nw_none e] at q
    have : Hst a = none := by
      cases z : Hst a with
      | none => rfl
      | some u => exact absurd e (ds a (by rw [z]; exact fun y => by cases y))
    rw [rs_none this, grow_none e]; exact q
  | some u => rw [nw_some e] at q; cases q
section
variable {X : Cx} {cf : Cf} {W : WX} {c : Cls} {n n1 n2 : Bool}
theorem fin_op {R : Rs} {Hs Hs2 : Hp} {env env2 : PEnv} {σ : L2.St} {H H2 H3 : Hp} {F : Nat → List Addr} {wf : List Addr} {v : V} {d : D} (s : Stp cf wf env Hs H env2 Hs2 H2) (r : Rel cf R Hs2 env2 σ H2 F wf) (x : Ex H2 H3) (p : Rp cf.K true (grow (rg c R.H0 Hs2 H H2 wf) H2 H3) v d) (nn : Nn cf.K n H2 H3 v d) {Q : VK}
    (k : ∀ v Hs' H', Stp cf wf env Hs H env2 Hs' H' → Rel cf R Hs' env2 σ H' F wf → Rp cf.K true (rg c R.H0 Hs' H H' wf) v d → Nr cf.K n H Hs' v d → Q v H') : Q v H3 :=
  k v (grow Hs2 H2 H3) H3 (s.trans (Stp.grow r.exs x)) (r.grow x) (p.mono (rg_grow r.dom0 s.dom (fun a m => (r.wdom a m).1) r.exs x)) (nr_of s.dom nn)
theorem sd_op1 {r : V → Hp → VK → Prop} {g : D → Option D} {ta : TE} {fa : M D} (hs : Snd1 cf.K n r g) (ha : Sd cf W c n1 ta fa) : Sd cf W c n (tUn r ta) (e1 g fa) := by
  refine Sd.mk (fun R Hs env σ H F wf r d env' q Q k => ?_) (fun R Hs env σ H F wf r x env' q Q k => ?_)
  · obtain ⟨d1, env1, q1, q⟩ := bnd_ok q
    obtain ⟨qg, rfl⟩ := lift_ok q
    exact ha.ok r q1 fun v Hs1 H1 s1 r1 p1 _ => hs _ H1 v d1 d (rg_sub r1.exs) p1 qg Q fun v2 H2 x p nn => fin_op s1 r1 x p nn k
  · rcases bnd_ex q with q | ⟨d1, env1, q1, q⟩
    · exact ha.exn r q k
    · exact (lift_ex q).elim
theorem sd_op2 {r : R2} {g : D → D → Option D} {ta tb : TE} {fa fb : M D} (hs : Snd2 cf.K n r g) (ha : Sd cf W c n1 ta fa) (hb : Sd cf W c n2 tb fb) : Sd cf W c n (tOp r ta tb) (e2 g fa fb) := by
  refine Sd.mk (fun R Hs env σ H F wf r d env' q Q k => ?_) (fun R Hs env σ H F wf r x env' q Q k => ?_)
  · obtain ⟨d1, env1, q1, q⟩ := bnd_ok q
    obtain ⟨d2, env2, q2, q⟩ := bnd_ok q
    obtain ⟨qg, rfl⟩ := lift_ok q
    exact ha.ok r q1 fun v Hs1 H1 s1 r1 p1 _ => hb.ok r1 q2 fun v2 Hs2 H2 s2 r2 p2 _ =>
      hs (rg c R.H0 Hs2 H H2 wf) H2 v v2 d1 d2 d (rg_sub r2.exs) (p1.mono (rg_step s2)) (p2.mono (rg_start s1.dom)) qg Q fun v3 H3 x p nn => fin_op (s1.trans s2) r2 x p nn k
  · rcases bnd_ex q with q | ⟨d1, env1, q1, q⟩
    · exact ha.exn r q k
    · rcases bnd_ex q with q | ⟨d2, env2, q2, q⟩
      · exact ha.ok r q1 fun v Hs1 H1 s1 r1 p1 _ => hb.exn r1 q fun Hs2 H2 s2 r2 => k Hs2 H2 (s1.trans s2) r2
      · exact (lift_ex q).elim
theorem sd_opN {r : List V → Hp → VK → Prop} {g : List D → Option D} {ta : TA} {fa : M (List D)} (hs : SndN cf.K n r g) (ha : SdA cf W c ta fa) : Sd cf W c n (tCB r ta) (eN g fa) := by
  refine Sd.mk (fun R Hs env σ H F wf r d env' q Q k => ?_) (fun R Hs env σ H F wf r x env' q Q k => ?_)
  · obtain ⟨d1, env1, q1, q⟩ := bnd_ok q
    obtain ⟨qg, rfl⟩ := lift_ok q
    exact ha.ok r q1 fun v Hs1 H1 s1 r1 p1 => hs _ H1 v d1 d (rg_sub r1.exs) p1 qg Q fun v2 H2 x p nn => fin_op s1 r1 x p nn k
  · rcases bnd_ex q with q | ⟨d1, env1, q1, q⟩
    · exact ha.exn r q k
    · exact (lift_ex q).elim
theorem sda_nil : SdA cf W c tNil aNil := SdA.mk (fun R Hs env σ H F wf r d env' q Q k => by cases q; exact k [] Hs H Stp.refl r .nil) (fun _ _ _ _ _ _ _ _ _ _ q => by cases q)
theorem sda_cons {ta : TE} {fa : M D} {tr : TA} {fr : M (List D)} (ha : Sd cf W c n1 ta fa) (hr : SdA cf W c tr fr) : SdA cf W c (tCons ta tr) (aCons fa fr) := by
  refine SdA.mk (fun R Hs env σ H F wf r d env' q Q k => ?_) (fun R Hs env σ H F wf r x env' q Q k => ?_)
  · obtain ⟨d1, env1, q1, q⟩ := bnd_ok q
    obtain ⟨d2, env2, q2, q⟩ := bnd_ok q
    cases q
    exact ha.ok r q1 fun v Hs1 H1 s1 r1 p1 _ => hr.ok r1 q2 fun v2 Hs2 H2 s2 r2 p2 => k (v :: v2) Hs2 H2 (s1.trans s2) r2 (.cons (p1.mono (rg_step s2)) (p2.mono (rg_start s1.dom)))
  · rcases bnd_ex q with q | ⟨d1, env1, q1, q⟩
    · exact ha.exn r q k
    · rcases bnd_ex q with q | ⟨d2, env2, q2, q⟩
      · exact ha.ok r q1 fun v Hs1 H1 s1 r1 p1 _ => hr.exn r1 q fun Hs2 H2 s2 r2 => k Hs2 H2 (s1.trans s2) r2
      · cases q
theorem sa_nil : SA X cf W c [] tNil aNil := ⟨pa_nil, sda_nil⟩
theorem sa_cons {e : Expr} {es : List Expr} {ta : TE} {tr : TA} {fa : M D} {fr : M (List D)} (ha : SE X cf W c n1 e ta fa) (hr : SA X cf W c es tr fr) (hs : starEach (e :: es) X.env = (false, eval e X.env) :: starEach es X.env := by rfl) : SA X cf W c (e :: es) (tCons ta tr) (aCons fa fr) := ⟨pa_cons ha.p hr.p hs, sda_cons ha.s hr.s⟩
def gLst (ds : List D) : Option D := if ds.length ≤ sizeLine then some (.lst ds) else none
def gTupD (ds : List D) : Option D := if ds.length ≤ sizeLine then some (.tup ds) else none
theorem new_rp {K : PySem.W.Frag} {G H : Hp} {p : Addr} {xs : List V} {ds : List D} (e : Ex G H) (hp : H p = none) (h : RpL K true G xs ds) : Rp K true (grow G H (upd H p (.lst xs))) (.ref p) (.lst ds) :=
  .lst (show grow G H (upd H p (.lst xs)) p = _ by rw [grow_none hp, upd_same]) (h.mono (Ex.grow e (Ex.new hp)))
theorem new_nn {K : PySem.W.Frag} {n : Bool} {G H : Hp} {p : Addr} {xs : List V} {ds : List D} (hp : H p = none) (h : RpL K true G xs ds) : Nn K n H (upd H p (.lst xs)) (.ref p) (.lst ds) := fun _ hf =>
  .lst (show nw H (upd H p (.lst xs)) p = _ by rw [nw_none hp, upd_same]) (h.sc_any hf _ _)
theorem newT_rp {K : PySem.W.Frag} {G H : Hp} {p : Addr} {xs : List V} {ds : List D} (e : Ex G H) (hp : H p = none) (h : RpL K true G xs ds) : Rp K true (grow G H (upd H p (.tup xs))) (.ref p) (.tup ds) :=
  .tup (show grow G H (upd H p (.tup xs)) p = _ by rw [grow_none hp, upd_same]) (h.mono (Ex.grow e (Ex.new hp)))
theorem newT_nn {K : PySem.W.Frag} {n : Bool} {G H : Hp} {p : Addr} {xs : List V} {ds : List D} (hp : H p = none) (h : RpL K true G xs ds) : Nn K n H (upd H p (.tup xs)) (.ref p) (.tup ds) := fun _ hf =>
  .tup (show nw H (upd H p (.tup xs)) p = _ by rw [nw_none hp, upd_same]) (h.sc_any hf _ _)
theorem snd_lst {K : PySem.W.Frag} {n : Bool} : SndN K n (fun xs H1 Q => xs.length ≤ sizeLine ∧ ∀ p, H1 p = none → Q (.ref p) (upd H1 p (.lst xs))) gLst := fun G H xs ds d e h q Q k => by
  unfold gLst at q
  split at q
  · cases q
    rename_i hl
    exact ⟨by rw [h.length]; exact hl, fun p hp => k _ _ (Ex.new hp) (new_rp e hp h) (new_nn hp h)⟩
  · cases q
theorem snd_tup {K : PySem.W.Frag} {n : Bool} : SndN K n (fun xs H1 Q => xs.length ≤ sizeLine ∧ ∀ p, H1 p = none → Q (.ref p) (upd H1 p (.tup xs))) gTupD := fun G H xs ds d e h q Q k => by
  unfold gTupD at q
  split at q
  · cases q
    rename_i hl
    exact ⟨by rw [h.length]; exact hl, fun p hp => k _ _ (Ex.new hp) (newT_rp e hp h) (newT_nn hp h)⟩
  · cases q
theorem se_lst {es : List Expr} {ta : TA} {fa : M (List D)} {pos : Pos} (h : SA X cf W c es ta fa) : SE X cf W c true (.List es pos) (tLst ta) (eN gLst fa) := by
  obtain ⟨p, s⟩ := h
  exact ⟨pe_lst p, sd_opN (r := fun xs H1 Q => xs.length ≤ sizeLine ∧ ∀ p, H1 p = none → Q (.ref p) (upd H1 p (.lst xs))) snd_lst s⟩
theorem se_tup {es : List Expr} {ta : TA} {fa : M (List D)} {x1 : Nat} {pos : Pos} (h : SA X cf W c es ta fa) : SE X cf W c true (.Tuple es x1 pos) (tTup ta) (eN gTupD fa) := by
  obtain ⟨p, s⟩ := h
  exact ⟨pe_tup p, sd_opN (r := fun xs H1 Q => xs.length ≤ sizeLine ∧ ∀ p, H1 p = none → Q (.ref p) (upd H1 p (.tup xs))) snd_tup s⟩
theorem se_bin {op : Operator} {r : R2} {g : D → D → Option D} {a b : Expr} {ta tb : TE} {fa fb : M D} {pos : Pos} (ho : OpR X (binaryOp op) r) (hs : Snd2 cf.K n r g) (ha : SE X cf W c n1 a ta fa) (hb : SE X cf W c n2 b tb fb) : SE X cf W c n (.BinOp a op b pos) (tOp r ta tb) (e2 g fa fb) := ⟨pe_op ho ha.p hb.p, sd_op2 hs ha.s hb.s⟩
theorem se_una {op : UnaryOp} {r : V → Hp → VK → Prop} {g : D → Option D} {a : Expr} {ta : TE} {fa : M D} {pos : Pos} (ho : UnR X (unaryOp op) r) (hs : Snd1 cf.K n r g) (ha : SE X cf W c n1 a ta fa) : SE X cf W c n (.UnaryOp op a pos) (tUn r ta) (e1 g fa) := ⟨pe_un ho ha.p, sd_op1 hs ha.s⟩
theorem se_cmp {op : CmpOp} {r : R2} {g : D → D → Option D} {a b : Expr} {ta tb : TE} {fa fb : M D} {pos : Pos} (ho : OpR X (compareOp op) r) (hs : Snd2 cf.K n r g) (ha : SE X cf W c n1 a ta fa) (hb : SE X cf W c n2 b tb fb) (hm : behindInMarks op b = false) : SE X cf W c n (.Compare a [op] [b] pos) (tOp r ta tb) (e2 g fa fb) := ⟨pe_cmpR ho ha.p hb.p hm, sd_op2 hs ha.s hb.s⟩
def asB (d : D) : Option Bool := match d with
  | .bl b => some b
  | _ => none
def tB (f : M D) : M Bool := bnd f fun d => lift (asB d)
theorem asB_some {d : D} {b : Bool} (h : asB d = some b) : d = .bl b := by
  unfold asB at h
  split at h
  · cases h; rfl
  · cases h
theorem sdt_test {te : TE} {f : M D} (h : Sd cf W c n te f) : SdT cf W (tTest te) (tB f) := by
  refine SdT.mk (fun R Hs env σ H F wf r d env' q Q k => ?_) (fun R Hs env σ H F wf r x env' q Q k => ?_)
  · obtain ⟨d1, env1, q1, q⟩ := bnd_ok q
    obtain ⟨qg, rfl⟩ := lift_ok q
    cases asB_some qg
    exact h.ok r q1 fun v Hs1 H1 s1 r1 p1 _ => ⟨d, p1.bl_inv, k Hs1 H1 s1 r1⟩
  · rcases bnd_ex q with q | ⟨d1, env1, q1, q⟩
    · exact h.exn r q k
    · exact (lift_ex q).elim
theorem st_cmp {op : CmpOp} {r : R2} {g : D → D → Option D} {a b : Expr} {ta tb : TE} {fa fb : M D} {pos : Pos} (ho : OpR X (compareOp op) r) (hs : Snd2 cf.K n r g) (ha : SE X cf W c n1 a ta fa) (hb : SE X cf W c n2 b tb fb) (hm : behindInMarks op b = false) : ST X cf W (.Compare a [op] [b] pos) (tTest (tOp r ta tb)) (tB (e2 g fa fb)) := ⟨pt_cmpR ho ha.p hb.p hm, sdt_test (sd_op2 hs ha.s hb.s)⟩
theorem st_val {e : Expr} {te : TE} {f : M D} (h : SE X cf W c n e te f) (he : ∀ whole, isTrue e X.env whole = (do let v ← whole; standAt e.pos; holding [v] (truthy v)) := by intro _; rfl) : ST X cf W e (L2.tB te) (tB f) := ⟨pt_val h.p he, sdt_test h.s⟩
def tAnd2 (a b : M Bool) : M Bool := bnd a fun x => if x then b else ret false
def tOr2 (a b : M Bool) : M Bool := bnd a fun x => if x then ret true else b
def tNot1 (a : M Bool) : M Bool := bnd a fun x => ret (!x)
theorem sdt_and {ta tb : TT} {fa fb : M Bool} (ha : SdT cf W ta fa) (hb : SdT cf W tb fb) : SdT cf W (tAnd ta tb) (tAnd2 fa fb) := by
  refine SdT.mk (fun R Hs env σ H F wf r d env' q Q k => ?_) (fun R Hs env σ H F wf r x env' q Q k => ?_)
  · obtain ⟨d1, env1, q1, q⟩ := bnd_ok q
    refine ha.ok r q1 fun Hs1 H1 s1 r1 => ?_
    cases d1 with
    | true => exact hb.ok r1 q fun Hs2 H2 s2 r2 => k Hs2 H2 (s1.trans s2) r2
    | false => cases q; exact k Hs1 H1 s1 r1
  · rcases bnd_ex q with q | ⟨d1, env1, q1, q⟩
    · exact ha.exn r q k
    · refine ha.ok r q1 fun Hs1 H1 s1 r1 => ?_
      cases d1 with
      | true => exact hb.exn r1 q fun Hs2 H2 s2 r2 => k Hs2 H2 (s1.trans s2) r2
      | false => cases q
theorem sdt_or {ta tb : TT} {fa fb : M Bool} (ha : SdT cf W ta fa) (hb : SdT cf W tb fb) : SdT cf W (tOr ta tb) (tOr2 fa fb) := by
  refine SdT.mk (fun R Hs env σ H F wf r d env' q Q k => ?_) (fun R Hs env σ H F wf r x env' q Q k => ?_)
  · obtain ⟨d1, env1, q1, q⟩ := bnd_ok q
    refine ha.ok r q1 fun Hs1 H1 s1 r1 => ?_
    cases d1 with
    | false => exact hb.ok r1 q fun Hs2 H2 s2 r2 => k Hs2 H2 (s1.trans s2) r2
    | true => cases q; exact k Hs1 H1 s1 r1
  · rcases bnd_ex q with q | ⟨d1, env1, q1, q⟩
    · exact ha.exn r q k
    · refine ha.ok r q1 fun Hs1 H1 s1 r1 => ?_
      cases d1 with
      | false => exact hb.exn r1 q fun Hs2 H2 s2 r2 => k Hs2 H2 (s1.trans s2) r2
      | true => cases q
theorem sdt_not {ta : TT} {fa : M Bool} (ha : SdT cf W ta fa) : SdT cf W (tNot ta) (tNot1 fa) := by
  refine SdT.mk (fun R Hs env σ H F wf r d env' q Q k => ?_) (fun R Hs env σ H F wf r x env' q Q k => ?_)
  · obtain ⟨d1, env1, q1, q⟩ := bnd_ok q
    cases q
    exact ha.ok r q1 k
  · rcases bnd_ex q with q | ⟨d1, env1, q1, q⟩
    · exact ha.exn r q k
    · cases q
theorem sw_and1 {a : Expr} {ta : TT} {fa : M Bool} {pos : Pos} (h : ST X cf W a ta fa) : SW X cf W (.BoolOp .And [a] pos) ta fa := ⟨pw_and1 h.p, h.s⟩
theorem sw_or1 {a : Expr} {ta : TT} {fa : M Bool} {pos : Pos} (h : ST X cf W a ta fa) : SW X cf W (.BoolOp .Or [a] pos) ta fa := ⟨pw_or1 h.p, h.s⟩
theorem sw_and {a b : Expr} {rest : List Expr} {ta tb : TT} {fa fb : M Bool} {pos : Pos} (h : ST X cf W a ta fa) (h2 : SW X cf W (.BoolOp .And (b :: rest) pos) tb fb) : SW X cf W (.BoolOp .And (a :: b :: rest) pos) (tAnd ta tb) (tAnd2 fa fb) := ⟨pw_and h.p h2.p, sdt_and h.s h2.s⟩
theorem sw_or {a b : Expr} {rest : List Expr} {ta tb : TT} {fa fb : M Bool} {pos : Pos} (h : ST X cf W a ta fa) (h2 : SW X cf W (.BoolOp .Or (b :: rest) pos) tb fb) : SW X cf W (.BoolOp .Or (a :: b :: rest) pos) (tOr ta tb) (tOr2 fa fb) := ⟨pw_or h.p h2.p, sdt_or h.s h2.s⟩
theorem SW.st {e : Expr} {ta : TT} {f : M Bool} (h : SW X cf W e ta f) : ST X cf W e ta f := ⟨h.p.pt, h.s⟩
theorem st_not {a : Expr} {ta : TT} {fa : M Bool} {pos : Pos} (h : ST X cf W a ta fa) : ST X cf W (.UnaryOp .Not a pos) (tNot ta) (tNot1 fa) := ⟨pt_not h.p, sdt_not h.s⟩
def eAndV (a b : M D) : M D := bnd a fun x => bnd (lift (asB x)) fun k => if k then b else ret (.bl false)
def eOrV (a b : M D) : M D := bnd a fun x => bnd (lift (asB x)) fun k => if k then ret (.bl true) else b
def eNotV (a : M D) : M D := bnd a fun x => bnd (lift (asB x)) fun k => ret (.bl (!k))
def eIfE (t : M Bool) (a b : M D) : M D := bnd t fun k => if k then a else b
theorem sd_andV {ta tb : TE} {fa fb : M D} (ha : Sd cf W c n1 ta fa) (hb : Sd cf W c n2 tb fb) : Sd cf W c n2 (tAndV ta tb) (eAndV fa fb) := by
  refine Sd.mk (fun R Hs env σ H F wf r d env' q Q k => ?_) (fun R Hs env σ H F wf r x env' q Q k => ?_)
  · obtain ⟨d1, env1, q1, q⟩ := bnd_ok q
    obtain ⟨b, env2, q2, q⟩ := bnd_ok q
    obtain ⟨qb, rfl⟩ := lift_ok q2
    cases asB_some qb
    refine ha.ok r q1 fun v Hs1 H1 s1 r1 p1 _ => ⟨b, p1.bl_inv, ?_⟩
    cases b with
    | true => exact hb.ok r1 q fun v2 Hs2 H2 s2 r2 p2 nr => k v2 Hs2 H2 (s1.trans s2) r2 (p2.mono (rg_start s1.dom)) fun z hf => (nr z hf).mono (rg_start (c := .V) (H0 := R.H0) (H := H2) (wf := wf) s1.dom)
    | false => cases q; exact k _ Hs1 H1 s1 r1 (.bl false) fun _ _ => .bl false
  · rcases bnd_ex q with q | ⟨d1, env1, q1, q⟩
    · exact ha.exn r q k
    · rcases bnd_ex q with q | ⟨b, env2, q2, q⟩
      · exact (lift_ex q).elim
      · obtain ⟨qb, rfl⟩ := lift_ok q2
        cases asB_some qb
        refine ha.ok r q1 fun v Hs1 H1 s1 r1 p1 _ => ⟨b, p1.bl_inv, ?_⟩
        cases b with
        | true => exact hb.exn r1 q fun Hs2 H2 s2 r2 => k Hs2 H2 (s1.trans s2) r2
        | false => cases q
theorem se_one {op} {a : Expr} {ta : TE} {fa : M D} {pos : Pos} (h : SE X cf W c n a ta fa) : SE X cf W c n (.BoolOp op [a] pos) ta fa := ⟨pe_one h.p, h.s⟩
theorem se_and {a b : Expr} {rest : List Expr} {ta tb : TE} {fa fb : M D} {pos : Pos} (h : SE X cf W c n1 a ta fa) (h2 : SE X cf W c n2 (.BoolOp .And (b :: rest) pos) tb fb) : SE X cf W c n2 (.BoolOp .And (a :: b :: rest) pos) (tAndV ta tb) (eAndV fa fb) := ⟨pe_and h.p h2.p, sd_andV h.s h2.s⟩
theorem se_cb {id : String} {r : List V → Hp → VK → Prop} {g : List D → Option D} {x : Str} {e : Expr} {es : List Expr} {ta : TA} {fa : M (List D)} {p pos : Pos} (hc : CallR X (.builtin id) r) (hs : SndN cf.K n r g) (hg : Gl X x) (hm : X.mg x = none) (hv : bootBuiltins x = some (.builtin id)) (ha : SA X cf W c (e :: es) ta fa)
    (hn : x ≠ "__name__" := by decide) (hdb : (x == ("__debug__" : Str)) = false := by decide) (he : starEach (e :: es) X.env = (false, eval e X.env) :: starEach es X.env := by rfl) (hpl : (backTo pos (starEach es X.env)).any (·.1) = false := by rfl) :
    SE X cf W c n (.Call (.Name x p) (e :: es) [] pos) (tCB r ta) (eN g fa) := ⟨pe_callB hc hg hm hv ha.p hn hdb he hpl, sd_opN hs ha.s⟩
theorem se_ct {T : String} {r : List V → Hp → VK → Prop} {g : List D → Option D} {x : Str} {e : Expr} {es : List Expr} {ta : TA} {fa : M (List D)} {p pos : Pos} (hc : CallR X (.type T) r) (hs : SndN cf.K n r g) (hg : Gl X x) (hm : X.mg x = none) (hv : bootBuiltins x = some (.type T)) (ha : SA X cf W c (e :: es) ta fa)
    (hn : x ≠ "__name__" := by decide) (hdb : (x == ("__debug__" : Str)) = false := by decide) (he : starEach (e :: es) X.env = (false, eval e X.env) :: starEach es X.env := by rfl) (hpl : (backTo pos (starEach es X.env)).any (·.1) = false := by rfl) :
    SE X cf W c n (.Call (.Name x p) (e :: es) [] pos) (tCB r ta) (eN g fa) := ⟨pe_callTy hc hg hm hv ha.p hn hdb he hpl, sd_opN hs ha.s⟩
end
end MV
namespace MV
open PySem L2
abbrev LIM : Nat := 100000
theorem lim_sz {n : Nat} (h : n ≤ LIM) : n ≤ sizeLine := Nat.le_trans h (by decide)
theorem lim_lt {n : Nat} (h : n < LIM) : n < sizeLine := Nat.lt_of_lt_of_le h (by decide)
section
variable {K : PySem.W.Frag} {G H : Hp} {n : Bool} {d : D} {v : V} {Q : VK}
theorem k_sc (k : ∀ v H', Ex H H' → Rp K true (grow G H H') v d → Nn K n H H' v d → Q v H') (h : d.toV = some v) : Q v H := k v H (Ex.refl H) (.sc h) fun _ _ => .sc h
end
def gI2 (f : Int → Int → Option D) : D → D → Option D
  | .int i, .int j => f i j
  | _, _ => none
theorem gI2_some {f : Int → Int → Option D} {x y d : D} (h : gI2 f x y = some d) : ∃ i j, x = .int i ∧ y = .int j ∧ f i j = some d := by
  unfold gI2 at h
  split at h
  · exact ⟨_, _, rfl, rfl, h⟩
  · cases h
theorem snd_rI {K : PySem.W.Frag} {C : Int → Int → Prop} [∀ i j, Decidable (C i j)] {g : Int → Int → V} {g' : Int → Int → D} (hg : ∀ i j, (g' i j).toV = some (g i j)) : Snd2 K true (rI C g) (gI2 fun i j => if C i j then some (g' i j) else none) := fun G H x y d1 d2 d e h1 h2 q Q k => by
  obtain ⟨i, j, rfl, rfl, qq⟩ := gI2_some q
  split at qq
  · cases qq
    rename_i hc
    exact ⟨i, j, h1.int_inv, h2.int_inv, hc, k_sc k (hg i j)⟩
  · cases qq
theorem snd_rI0 {K : PySem.W.Frag} {g : Int → Int → V} {g' : Int → Int → D} (hg : ∀ i j, (g' i j).toV = some (g i j)) : Snd2 K true (rI0 g) (gI2 fun i j => some (g' i j)) := fun G H x y d1 d2 d e h1 h2 q Q k => by
  obtain ⟨i, j, rfl, rfl, qq⟩ := gI2_some q
  cases qq
  exact ⟨i, j, h1.int_inv, h2.int_inv, k_sc k (hg i j)⟩
instance {i j : Int} : Decidable (CDiv i j) := by unfold CDiv; infer_instance
instance {i j : Int} : Decidable (CPow i j) := by unfold CPow; infer_instance
instance {i j : Int} : Decidable (CMul i j) := by unfold CMul; infer_instance
def gSub := gI2 fun i j => some (.int (i - j))
def divW (j : Int) : Bool := decide (0 < j) && decide (j.natAbs.log2 < 9000)
def gFdiv := gI2 fun i j => if CDiv i j ∨ divW j = true then some (.int (i / j)) else none
def gMod := gI2 fun i j => if 0 < j then some (.int (i % j)) else none
def gPow := gI2 fun i j => if CPow i j then some (.int (i ^ j.toNat)) else none
def gShr := gI2 fun i j => if 0 ≤ j then some (.int (i / 2 ^ j.toNat)) else none
def gShl := gI2 fun i j => if CPow i j then some (.int (i * 2 ^ j.toNat)) else none
def gLt := gI2 fun i j => some (.bl (decide (i < j)))
def gLe := gI2 fun i j => some (.bl (decide (i ≤ j)))
def gGt := gI2 fun i j => some (.bl (decide (j < i)))
def gGe := gI2 fun i j => some (.bl (decide (j ≤ i)))
section
variable {K : PySem.W.Frag}
theorem snd_sub : Snd2 K true (rI0 fun i j => .int (i - j)) gSub := snd_rI0 fun _ _ => rfl
def rFdiv : R2 := fun x y H Q => rI CDiv (fun i j => .int (i / j)) x y H Q ∨ rI CDivW (fun i j => .int (i / j)) x y H Q
theorem snd_fdiv : Snd2 K true rFdiv gFdiv := fun G H x y d1 d2 d e h1 h2 q Q k => by
  obtain ⟨i, j, rfl, rfl, qq⟩ := gI2_some q
  split at qq
  · cases qq
    rename_i hc
    rcases hc with hc | hc
    · exact .inl ⟨i, j, h1.int_inv, h2.int_inv, hc, k_sc k rfl⟩
    · unfold divW at hc
      rw [Bool.and_eq_true] at hc
      exact .inr ⟨i, j, h1.int_inv, h2.int_inv, ⟨of_decide_eq_true hc.1, of_decide_eq_true hc.2⟩, k_sc k rfl⟩
  · cases qq
theorem snd_mod : Snd2 K true (rI (fun _ j => 0 < j) fun i j => .int (i % j)) gMod := snd_rI (C := fun _ j => 0 < j) fun _ _ => rfl
theorem snd_pow : Snd2 K true (rI CPow fun i j => .int (i ^ j.toNat)) gPow := snd_rI fun _ _ => rfl
theorem snd_lt : Snd2 K true (rI0 fun i j => .bl (decide (i < j))) gLt := snd_rI0 fun _ _ => rfl
theorem snd_le : Snd2 K true (rI0 fun i j => .bl (decide (i ≤ j))) gLe := snd_rI0 fun _ _ => rfl
theorem snd_gt : Snd2 K true (rI0 fun i j => .bl (decide (j < i))) gGt := snd_rI0 fun _ _ => rfl
end
theorem gI2_sc {f : Int → Int → Option D} (hf : ∀ i j d, f i j = some d → d.sc = true) {a b : M D} : ScF (e2 (gI2 f) a b) := fun env d env' q => by
  obtain ⟨d1, env1, q1, q⟩ := bnd_ok q
  obtain ⟨d2, env2, q2, q⟩ := bnd_ok q
  obtain ⟨qg, rfl⟩ := lift_ok q
  obtain ⟨i, j, _, _, q⟩ := gI2_some qg
  exact hf i j d q
theorem e2_sc {g : D → D → Option D} (hg : ∀ x y d, g x y = some d → d.sc = true) {a b : M D} : ScF (e2 g a b) := fun env d env' q => by
  obtain ⟨d1, env1, q1, q⟩ := bnd_ok q
  obtain ⟨d2, env2, q2, q⟩ := bnd_ok q
  obtain ⟨qg, rfl⟩ := lift_ok q
  exact hg _ _ _ qg
theorem e1_sc {g : D → Option D} (hg : ∀ x d, g x = some d → d.sc = true) {a : M D} : ScF (e1 g a) := fun env d env' q => by
  obtain ⟨d1, env1, q1, q⟩ := bnd_ok q
  obtain ⟨qg, rfl⟩ := lift_ok q
  exact hg _ _ qg
theorem eN_sc {g : List D → Option D} (hg : ∀ x d, g x = some d → d.sc = true) {a : M (List D)} : ScF (eN g a) := fun env d env' q => by
  obtain ⟨d1, env1, q1, q⟩ := bnd_ok q
  obtain ⟨qg, rfl⟩ := lift_ok q
  exact hg _ _ qg
def gAdd : D → D → Option D
  | .int i, .int j => some (.int (i + j))
  | .str a, .str b => if a.length + b.length ≤ LIM then some (.str (a ++ b)) else none
  | .lst a, .lst b => if a.length + b.length ≤ LIM then some (.lst (a ++ b)) else none
  | _, _ => none
def rAdd3 : R2 := fun x y H Q => rI0 (fun i j => .int (i + j)) x y H Q ∨ (∃ i j, x = .str i ∧ y = .str j ∧ i.length + j.length ≤ sizeLine ∧ Q (.str (i ++ j)) H) ∨ rCat x y H Q
theorem op_add3 {X : Cx} : OpR X (binaryOp .Add) rAdd3 := op_add.or (op_add_str.or op_cat)
theorem snd_add {K : PySem.W.Frag} : Snd2 K true rAdd3 gAdd := fun G H x y d1 d2 d e h1 h2 q Q k => by
  unfold gAdd at q
  split at q
  · cases q; exact .inl ⟨_, _, h1.int_inv, h2.int_inv, k_sc k rfl⟩
  · split at q
    · cases q
      rename_i hl
      exact .inr (.inl ⟨_, _, h1.str_inv, h2.str_inv, lim_sz hl, k_sc k rfl⟩)
    · cases q
  · split at q
    · cases q
      rename_i hl
      obtain ⟨a, xs, rfl, s1, r1⟩ := h1.lst_inv
      obtain ⟨b, ys, rfl, s2, r2⟩ := h2.lst_inv
      refine .inr (.inr ⟨a, b, xs, ys, rfl, rfl, e _ _ s1, e _ _ s2, by rw [r1.length, r2.length]; exact lim_sz hl, fun p hp => k _ _ (Ex.new hp) (new_rp e hp (r1.append r2)) (new_nn hp (r1.append r2))⟩)
    · cases q
  · cases q
theorem RpL.rep {K : PySem.W.Frag} {x : Bool} {G : Hp} {vs : List V} {ds : List D} (h : RpL K x G vs ds) : ∀ k : Nat, RpL K x G (List.replicate k vs).flatten (List.replicate k ds).flatten
  | 0 => .nil
  | k + 1 => by
    rw [List.replicate_succ, List.replicate_succ, List.flatten_cons, List.flatten_cons]
    exact h.append (RpL.rep h k)
def repS (z : Str) (n : Nat) : Str := ⟨(List.replicate n z.cps.toList).flatten.toArray⟩
theorem foldl_cps (a : Array Nat) : ∀ (n : Nat) (b : Array Nat), ((List.replicate n a).foldl (· ++ ·) b) = b ++ (List.replicate n a.toList).flatten.toArray
  | 0, b => by simp
  | n + 1, b => by
    rw [List.replicate_succ, List.foldl_cons, foldl_cps a n, List.replicate_succ, List.flatten_cons]
    apply Array.ext'
    simp
def rSRep : R2 := fun x y H Q => ∃ (z : Str) (k : Int), x = .str z ∧ y = .int k ∧ -(2 ^ 63) ≤ k ∧ k < 2 ^ 31 ∧ z.length * k.toNat ≤ LIM ∧ Q (.str (repS z k.toNat)) H
theorem op_srep {X : Cx} : OpR X (binaryOp .Mult) rSRep := by
  intro pp s σ H x y v u Q I rx ry h
  obtain ⟨z, k, rfl, rfl, h1, h2, h3, q⟩ := h
  obtain ⟨t, rfl⟩ := rx
  obtain ⟨t', rfl⟩ := ry
  have hL : (LIM : Nat) = 100000 := rfl
  refine PySem.P.mul_str ?_ (fun hn _ => ?_) (fun hn _ => ?_) ?_
  · rw [decide_eq_false (by omega), decide_eq_false (by omega)]; rfl
  · have hk : (k.toNat : Int) = k := Int.toNat_of_nonneg (by omega)
    have : (z.length : Int) ≤ (2 ^ 63 - 1) / k := by
      apply Int.le_ediv_of_mul_le (by omega)
      rw [← hk]
      have : ((z.length * k.toNat : Nat) : Int) ≤ 100000 := by omega
      rw [Int.natCast_mul] at this
      omega
    omega
  · unfold PySem.Builtin.Str.tooLong
    exact decide_eq_false (by have : (100000 : Nat) ≤ sizeLine := by decide
                              omega)
  · split
    · rename_i hn
      have e : k.toNat = 0 := by omega
      rw [e] at q
      exact ⟨by decide, .str (repS z 0), H, I.tok _, ⟨_, rfl⟩, q⟩
    · rename_i hn
      split
      · rename_i hc
        rw [Bool.or_eq_true] at hc
        have e : repS z k.toNat = z := by
          rcases hc with hc | hc
          · have : k = 1 := by simpa using hc
            subst this
            unfold repS
            show (⟨([z.cps.toList] : List (List Nat)).flatten.toArray⟩ : Str) = z
            simp
          · have h0 : z.cps.toList = [] := by
              have : z.length = 0 := by simpa using hc
              apply List.eq_nil_of_length_eq_zero
              rw [Array.length_toList]; exact this
            unfold repS
            rw [h0]
            have : ∀ n : Nat, (List.replicate n ([] : List Nat)).flatten = [] := fun n => by simp
            rw [this]
            obtain ⟨⟨l⟩⟩ := z
            simp at h0
            rw [h0]
        rw [e] at q
        exact ⟨.str z, H, I, ⟨_, rfl⟩, q⟩
      · have e : (⟨(List.replicate k.toNat z.cps).foldl (· ++ ·) #[]⟩ : Str) = repS z k.toNat := by
          unfold repS
          rw [foldl_cps]
          simp
        rw [e]
        refine ⟨?_, .str (repS z k.toNat), H, I.tok _, ⟨_, rfl⟩, q⟩
        show (repS z k.toNat).cps.size ≤ sizeLine
        unfold repS
        rw [List.size_toArray, List.length_flatten, List.map_replicate, List.sum_replicate_nat, Array.length_toList]
        have hz : z.cps.size = z.length := rfl
        have : (100000 : Nat) ≤ sizeLine := by decide
        rw [hz, Nat.mul_comm]
        omega
def mulOk (i j : Int) : Bool := decide (CMul i j) || decide (i.natAbs.log2 + j.natAbs.log2 < 1000000)
def gMul : D → D → Option D
  | .int i, .int j => if mulOk i j then some (.int (i * j)) else none
  | .lst a, .int k => if a.length * k.toNat ≤ LIM ∧ -(2 ^ 63) ≤ k ∧ k < 2 ^ 63 then some (.lst (List.replicate k.toNat a).flatten) else none
  | .str z, .int k => if z.length * k.toNat ≤ LIM ∧ -(2 ^ 63) ≤ k ∧ k < 2 ^ 31 then some (.str (repS z k.toNat)) else none
  | _, _ => none
def rMul2 : R2 := fun x y H Q => rSRep x y H Q ∨ (rI CMul (fun i j => .int (i * j)) x y H Q ∨ rI CMulW (fun i j => .int (i * j)) x y H Q) ∨ rRep x y H Q
theorem op_mul2 {X : Cx} : OpR X (binaryOp .Mult) rMul2 := op_srep.or ((op_mul.or op_mulW).or op_rep)
theorem snd_mul {K : PySem.W.Frag} : Snd2 K true rMul2 gMul := fun G H x y d1 d2 d e h1 h2 q Q k => by
  unfold gMul at q
  split at q
  · split at q
    · cases q
      rename_i hc
      rcases Bool.or_eq_true_iff.mp hc with hc | hc
      · exact .inr (.inl (.inl ⟨_, _, h1.int_inv, h2.int_inv, of_decide_eq_true hc, k_sc k rfl⟩))
      · exact .inr (.inl (.inr ⟨_, _, h1.int_inv, h2.int_inv, (by unfold CMulW; exact of_decide_eq_true hc), k_sc k rfl⟩))
    · cases q
  · split at q
    · cases q
      rename_i hc
      obtain ⟨hc, hk1, hk2⟩ := hc
      obtain ⟨a, xs, rfl, s1, r1⟩ := h1.lst_inv
      refine .inr (.inr ⟨a, _, xs, rfl, h2.int_inv, e _ _ s1, hk1, hk2, by rw [r1.length]; exact lim_sz hc, fun p hp => k _ _ (Ex.new hp) (new_rp e hp (r1.rep _)) (new_nn hp (r1.rep _))⟩)
    · cases q
  · split at q
    · cases q
      rename_i hc
      obtain ⟨hc, hk1, hk2⟩ := hc
      exact .inl ⟨_, _, h1.str_inv, h2.int_inv, hk1, hk2, hc, k_sc k rfl⟩
    · cases q
  · cases q
def gNeg : D → Option D
  | .int i => some (.int (-i))
  | _ => none
theorem snd_neg {K : PySem.W.Frag} : Snd1 K true (rU fun i => .int (-i)) gNeg := fun G H x d1 d e h1 q Q k => by
  unfold gNeg at q
  split at q
  · cases q; exact ⟨_, h1.int_inv, k_sc k rfl⟩
  · cases q
mutual
def D.toP : D → Option PyData
  | .non => some .none
  | .bl b => some (.bool b)
  | .int i => some (.int i)
  | .str x => some (.str x)
  | .lst xs => (toPs xs).map .list
  | .tup xs => (toPs xs).map .tuple
  | _ => none
def toPs : List D → Option (List PyData)
  | [] => some []
  | x :: xs => match D.toP x, toPs xs with
    | some a, some b => some (a :: b)
    | _, _ => none
end
mutual
theorem Rp.dp {K : PySem.W.Frag} {G H : Hp} (e : Ex G H) : ∀ {v : V} {d : D} {p : PyData}, Rp K true G v d → d.toP = some p → Dp K H v p
  | _, .non, _, h, q => by cases q; rw [h.non_inv]; exact .non
  | _, .bl b, _, h, q => by cases q; rw [h.bl_inv]; exact .bl b
  | _, .int i, _, h, q => by cases q; rw [h.int_inv]; exact .int i
  | _, .str x, _, h, q => by cases q; rw [h.str_inv]; exact .str x
  | _, .lst ds, p, h, q => by
    cases h with
    | sc z => cases z
    | lst s r =>
      rw [D.toP] at q
      cases z : toPs ds with
      | none => rw [z] at q; cases q
      | some ps =>
        rw [z] at q
        cases q
        exact .lst (.inl (.inl (e _ _ s))) (RpL.dp e r z)
  | _, .tup ds, p, h, q => by
    cases h with
    | sc z => cases z
    | tup s r =>
      rw [D.toP] at q
      cases z : toPs ds with
      | none => rw [z] at q; cases q
      | some ps =>
        rw [z] at q
        cases q
        exact .tup (.inl (.inl (e _ _ s))) (RpL.dp e r z)
  | _, .dic _, _, _, q => by rw [D.toP] at q <;> first | cases q | (intros; rintro ⟨⟩)
  | _, .dit _, _, _, q => by rw [D.toP] at q <;> first | cases q | (intros; rintro ⟨⟩)
  | _, .exc _, _, _, q => by rw [D.toP] at q <;> first | cases q | (intros; rintro ⟨⟩)
theorem RpL.dp {K : PySem.W.Frag} {G H : Hp} (e : Ex G H) : ∀ {vs : List V} {ds : List D} {ps : List PyData}, RpL K true G vs ds → toPs ds = some ps → DpAll K H vs ps
  | _, _, _, .nil, q => by rw [toPs] at q; cases q; exact .nil
  | _, d :: ds, ps, .cons h r, q => by
    rw [toPs] at q
    cases z1 : D.toP d with
    | none => rw [z1] at q; cases q
    | some a =>
      cases z2 : toPs ds with
      | none => rw [z1, z2] at q; cases q
      | some b =>
        rw [z1, z2] at q
        cases q
        exact .cons (Rp.dp e h z1) (RpL.dp e r z2)
end
def deq (a b : D) : Option Bool := match a, b with
  | .int i, .int j => some (decide (i = j))
  | .str x, .str y => some (decide (x = y))
  | a, b => match a.toP, b.toP with
    | some p, some q => if SeqAt.shaped p && SeqAt.shaped q then some (PyData.eqv p q) else none
    | _, _ => none
def gEq (a b : D) : Option D := (deq a b).map .bl
def gNe (a b : D) : Option D := (deq a b).map fun k => .bl (!k)
def rEq2 (K : PySem.W.Frag) : R2 := fun x y H Q => rEq x y H Q ∨ rEqD K x y H Q
def rNe2 (K : PySem.W.Frag) : R2 := fun x y H Q => rNe x y H Q ∨ rNeD K x y H Q
theorem op_eq2 {X : Cx} (hu : X.A.units + 64 < cLine) : OpR X (compareOp .Eq) (rEq2 X.K) := op_eq.or (op_eqD hu)
theorem op_ne2 {X : Cx} (hu : X.A.units + 64 < cLine) : OpR X (compareOp .NotEq) (rNe2 X.K) := op_ne.or (op_neD hu)
theorem deq_cases {K : PySem.W.Frag} {G H : Hp} {x y : V} {a b : D} {k : Bool} (e : Ex G H) (h1 : Rp K true G x a) (h2 : Rp K true G y b) (q : deq a b = some k) :
    (scal x y = true ∧ decide (x = y) = k) ∨ ∃ p p', Dp K H x p ∧ Dp K H y p' ∧ SeqAt.shaped p = true ∧ SeqAt.shaped p' = true ∧ PyData.eqv p p' = k := by
  unfold deq at q
  split at q
  · cases q
    rw [h1.int_inv, h2.int_inv]
    refine .inl ⟨rfl, ?_⟩
    rw [Bool.eq_iff_iff]; simp
  · cases q
    rw [h1.str_inv, h2.str_inv]
    refine .inl ⟨rfl, ?_⟩
    rw [Bool.eq_iff_iff]; simp
  · split at q
    · split at q
      · cases q
        rename_i p p' z1 z2 hs
        rw [Bool.and_eq_true] at hs
        exact .inr ⟨p, p', h1.dp e z1, h2.dp e z2, hs.1, hs.2, rfl⟩
      · cases q
    · cases q
theorem snd_eq {K : PySem.W.Frag} : Snd2 K true (rEq2 K) gEq := fun G H x y d1 d2 d e h1 h2 q Q k => by
  unfold gEq at q
  cases z : deq d1 d2 with
  | none => rw [z] at q; cases q
  | some b =>
    rw [z] at q
    cases q
    rcases deq_cases e h1 h2 z with ⟨s, t⟩ | ⟨p, p', a1, a2, a3, a4, t⟩
    · exact .inl ⟨s, by rw [t]; exact k_sc k rfl⟩
    · exact .inr ⟨p, p', a1, a2, a3, a4, by rw [t]; exact k_sc k rfl⟩
theorem snd_ne {K : PySem.W.Frag} : Snd2 K true (rNe2 K) gNe := fun G H x y d1 d2 d e h1 h2 q Q k => by
  unfold gNe at q
  cases z : deq d1 d2 with
  | none => rw [z] at q; cases q
  | some b =>
    rw [z] at q
    cases q
    rcases deq_cases e h1 h2 z with ⟨s, t⟩ | ⟨p, p', a1, a2, a3, a4, t⟩
    · exact .inl ⟨s, by rw [t]; exact k_sc k rfl⟩
    · exact .inr ⟨p, p', a1, a2, a3, a4, by rw [t]; exact k_sc k rfl⟩
theorem atI_rp {K : PySem.W.Frag} {x : Bool} {G : Hp} {xs : List V} {ds : List D} {i : Int} {d : D} (h : RpL K x G xs ds) (q : atI ds i = some d) : ∃ v, atI xs i = some v ∧ Rp K x G v d := by
  unfold atI at q ⊢
  rw [h.length]
  cases z : ixN ds.length i with
  | none => rw [z] at q; cases q
  | some j =>
    rw [z] at q
    exact h.get q
def gIx : D → D → Option D
  | .lst ds, .int i => atI ds i
  | .tup ds, .int i => atI ds i
  | .str z, .int i => if z.length ≤ LIM then (atI z.cps.toList i).map fun c => .str ⟨#[c]⟩ else none
  | _, _ => none
theorem snd_ix {K : PySem.W.Frag} : Snd2 K false (rIx K) gIx := fun G H x y d1 d2 d e h1 h2 q Q k => by
  unfold gIx at q
  split at q
  · obtain ⟨a, xs, rfl, s1, r1⟩ := h1.lst_inv
    obtain ⟨v, hv, hr⟩ := atI_rp r1 q
    exact .inl ⟨a, xs, _, v, rfl, h2.int_inv, .inl (.inl (e _ _ s1)), hv, k v H (Ex.refl H) (hr.mono (Ex.grow e (Ex.refl H))) fun z => by cases z⟩
  · obtain ⟨a, xs, rfl, s1, r1⟩ := h1.tup_inv
    obtain ⟨v, hv, hr⟩ := atI_rp r1 q
    exact .inr (.inl ⟨a, xs, _, v, rfl, h2.int_inv, .inl (.inl (e _ _ s1)), hv, k v H (Ex.refl H) (hr.mono (Ex.grow e (Ex.refl H))) fun z => by cases z⟩)
  · split at q
    · rename_i z i hl
      cases zz : atI z.cps.toList i with
      | none => rw [zz] at q; cases q
      | some c =>
        rw [zz] at q
        cases q
        exact .inr (.inr ⟨_, _, c, h1.str_inv, h2.int_inv, lim_sz hl, zz, k_sc k rfl⟩)
    · cases q
  · cases q
theorem se_ix {X : Cx} {cf : Cf} {W : WX} {c : Cls} {n1 n2 : Bool} {a b : Expr} {ta tb : TE} {fa fb : M D} {pos : Pos} (hK : cf.K = X.K) (ha : SE X cf W c n1 a ta fa) (hb : SE X cf W c n2 b tb fb) (hs : PlainIx b) : SE X cf W c false (.Subscript a b pos) (tOp (rIx cf.K) ta tb) (e2 gIx fa fb) := by
  refine ⟨?_, sd_op2 snd_ix ha.s hb.s⟩
  rw [hK]
  exact pe_ix ix_seq ha.p hb.p hs
def asI : D → Option (Option Int)
  | .int i => some (some i)
  | _ => none
def oNone : M (Option Int) := ret none
def oSome (f : M D) : M (Option Int) := bnd f fun d => lift (asI d)
def cutA {α : Type} (xs : List α) (lo hi : Option Int) : List α := (xs.drop (HT.sIx xs.length 0 lo)).take (HT.sIx xs.length xs.length hi - HT.sIx xs.length 0 lo)
def gSl : D → Option Int → Option Int → Option D
  | .lst ds, l, h => some (.lst (cutA ds l h))
  | .str z, l, h => if z.length ≤ LIM then some (.str (cutS z l h)) else none
  | _, _, _ => none
def eSl (f : M D) (lo hi : M (Option Int)) : M D := bnd f fun x => bnd lo fun l => bnd hi fun h => lift (gSl x l h)
def SdO (cf : Cf) (W : WX) (to : TO) (f : M (Option Int)) : Prop :=
  ∀ (R : Rs) (Hs : Hp) (env : PEnv) (σ : L2.St) (H : Hp) (F : Nat → List Addr) (wf : List Addr), Rel cf R Hs env σ H F wf → ∀ Q : Option Int → Hp → Prop,
    match f env with
    | .ok o env' => (∀ Hs' H', Stp cf wf env Hs H env' Hs' H' → Rel cf R Hs' env' σ H' F wf → Q o H') → to σ H Q
    | .ex x env' => (∀ Hs' H', Stp cf wf env Hs H env' Hs' H' → Rel cf R Hs' env' σ H' F wf → W (cf.cv x) none σ H') → to σ H Q
    | .stuck => True
structure SO (X : Cx) (cf : Cf) (W : WX) (e : Option Expr) (t : TO) (f : M (Option Int)) : Prop where
  p : PO X e t
  s : SdO cf W t f
section
variable {X : Cx} {cf : Cf} {W : WX} {c : Cls} {n n1 n2 : Bool}
theorem so_none : SO X cf W none tNoPart oNone := ⟨po_none, fun R Hs env σ H F wf r Q k => k Hs H Stp.refl r⟩
theorem so_some {e : Expr} {te : TE} {f : M D} (h : SE X cf W c n e te f) : SO X cf W (some e) (tPart te) (oSome f) := by
  obtain ⟨p, s⟩ := h
  refine ⟨po_some p, fun R Hs env σ H F wf r Q => ?_⟩
  cases q : oSome f env with
  | ok o env' =>
    intro k
    obtain ⟨d, env1, q1, q⟩ := bnd_ok q
    obtain ⟨qg, rfl⟩ := lift_ok q
    unfold asI at qg
    split at qg
    · cases qg
      exact s.ok r q1 fun v Hs1 H1 s1 r1 p1 _ => ⟨_, p1.int_inv, k Hs1 H1 s1 r1⟩
    · cases qg
  | ex x env' =>
    intro k
    rcases bnd_ex q with q | ⟨d1, env1, q1, q⟩
    · exact s.exn r q k
    · exact (lift_ex q).elim
  | stuck => trivial
theorem SdO.ok {to : TO} {f : M (Option Int)} {R : Rs} {Hs : Hp} {env env' : PEnv} {σ : L2.St} {H : Hp} {F : Nat → List Addr} {wf : List Addr} (s : SdO cf W to f) (r : Rel cf R Hs env σ H F wf) {d : Option Int} (q : f env = .ok d env') {Q : Option Int → Hp → Prop} (k : ∀ Hs' H', Stp cf wf env Hs H env' Hs' H' → Rel cf R Hs' env' σ H' F wf → Q d H') : to σ H Q := by
  have h := s R Hs env σ H F wf r Q
  rw [q] at h
  exact h k
theorem SdO.exn {to : TO} {f : M (Option Int)} {R : Rs} {Hs : Hp} {env env' : PEnv} {σ : L2.St} {H : Hp} {F : Nat → List Addr} {wf : List Addr} (s : SdO cf W to f) (r : Rel cf R Hs env σ H F wf) {x : Str} (q : f env = .ex x env') {Q : Option Int → Hp → Prop} (k : ∀ Hs' H', Stp cf wf env Hs H env' Hs' H' → Rel cf R Hs' env' σ H' F wf → W (cf.cv x) none σ H') : to σ H Q := by
  have h := s R Hs env σ H F wf r Q
  rw [q] at h
  exact h k
theorem cutV_rp {K : PySem.W.Frag} {x : Bool} {G : Hp} {xs : List V} {ds : List D} (h : RpL K x G xs ds) (lo hi : Option Int) : RpL K x G (cutV xs lo hi) (cutA ds lo hi) := by
  unfold cutV cutA
  rw [h.length]
  exact (h.drop _).take _
def rSl2 (K : PySem.W.Frag) : V → Option Int → Option Int → Hp → VK → Prop := fun x lo hi H Q => rSlL K x lo hi H Q ∨ rSlS x lo hi H Q
theorem snd_sl {K : PySem.W.Frag} {G H : Hp} {x : V} {d1 d : D} {l h : Option Int} (e : Ex G H) (h1 : Rp K true G x d1) (q : gSl d1 l h = some d) (Q : VK) (k : ∀ v H', Ex H H' → Rp K true (grow G H H') v d → Nn K true H H' v d → Q v H') : rSl2 K x l h H Q := by
  unfold gSl at q
  split at q
  · cases q
    obtain ⟨a, xs, rfl, s1, r1⟩ := h1.lst_inv
    exact .inl ⟨a, xs, rfl, .inl (.inl (e _ _ s1)), fun p hp => k _ _ (Ex.new hp) (new_rp e hp (cutV_rp r1 _ _)) (new_nn hp (cutV_rp r1 _ _))⟩
  · split at q
    · cases q
      rename_i hl
      exact .inr ⟨_, h1.str_inv, lim_sz hl, k_sc k rfl⟩
    · cases q
  · cases q
theorem se_sl {e : Expr} {lo hi : Option Expr} {te : TE} {tl th : TO} {f : M D} {fl fh : M (Option Int)} {p2 pos : Pos} (hK : cf.K = X.K) (h : SE X cf W c n1 e te f) (hl : SO X cf W lo tl fl) (hh : SO X cf W hi th fh) : SE X cf W c true (.Subscript e (.Slice lo hi none p2) pos) (tSl (rSl2 cf.K) te tl th) (eSl f fl fh) := by
  rw [hK]
  obtain ⟨p, s⟩ := h
  obtain ⟨p2, s2⟩ := hl
  obtain ⟨p3, s3⟩ := hh
  refine ⟨pe_slice (r := rSl2 X.K) (sl_list.or sl_str) p p2 p3, Sd.mk (fun R Hs env σ H F wf r d env' q Q k => ?_) (fun R Hs env σ H F wf r x env' q Q k => ?_)⟩
  · obtain ⟨d1, env1, q1, q⟩ := bnd_ok q
    obtain ⟨d2, env2, q2, q⟩ := bnd_ok q
    obtain ⟨d3, env3, q3, q⟩ := bnd_ok q
    obtain ⟨qg, rfl⟩ := lift_ok q
    exact s.ok r q1 fun v Hs1 H1 s1 r1 p1 _ => s2.ok r1 q2 fun Hs2 H2 s2 r2 => s3.ok r2 q3 fun Hs3 H3 s3 r3 => by
      show rSl2 X.K v d2 d3 H3 Q
      rw [← hK]
      exact snd_sl (rg_sub (H0 := R.H0) (Hst := H) (c := c) (wf := wf) r3.exs) ((p1.mono (rg_step s2)).mono (rg_step s3)) qg Q fun v4 H4 x p nn => fin_op ((s1.trans s2).trans s3) r3 x p nn k
  · rcases bnd_ex q with q | ⟨d1, env1, q1, q⟩
    · exact s.exn r q k
    · rcases bnd_ex q with q | ⟨d2, env2, q2, q⟩
      · exact s.ok r q1 fun v Hs1 H1 s1 r1 p1 _ => s2.exn r1 q fun Hs2 H2 s2 r2 => k Hs2 H2 (s1.trans s2) r2
      · rcases bnd_ex q with q | ⟨d3, env3, q3, q⟩
        · exact s.ok r q1 fun v Hs1 H1 s1 r1 p1 _ => s2.ok r1 q2 fun Hs2 H2 s2 r2 => s3.exn r2 q fun Hs3 H3 s3 r3 => k Hs3 H3 ((s1.trans s2).trans s3) r3
        · exact (lift_ex q).elim
def gRev : D → Option D
  | .lst ds => some (.lst ds.reverse)
  | _ => none
theorem snd_rev {K : PySem.W.Frag} : Snd1 K true (fun x H1 Q => ∃ a xs, x = .ref a ∧ SqL K H1 a xs ∧ ∀ p, H1 p = none → Q (.ref p) (upd H1 p (.lst xs.reverse))) gRev := fun G H x d1 d e h1 q Q k => by
  unfold gRev at q
  split at q
  · cases q
    obtain ⟨a, xs, rfl, s1, r1⟩ := h1.lst_inv
    exact ⟨a, xs, rfl, .inl (.inl (e _ _ s1)), fun p hp => k _ _ (Ex.new hp) (new_rp e hp r1.rev) (new_nn hp r1.rev)⟩
  · cases q
theorem se_rev {e : Expr} {te : TE} {f : M D} {k : Nat} {p1 p2 p3 pos : Pos} (hK : cf.K = X.K) (h : SE X cf W c n1 e te f) : SE X cf W c true (.Subscript e (.Slice none none (some (.UnaryOp .USub (.Constant (.int 1) k p1) p2)) p3) pos) (tRevL cf.K te) (e1 gRev f) := by
  rw [hK]
  obtain ⟨p, s⟩ := h
  exact ⟨pe_revL p, sd_op1 (r := fun x H1 Q => ∃ a xs, x = .ref a ∧ SqL X.K H1 a xs ∧ ∀ p, H1 p = none → Q (.ref p) (upd H1 p (.lst xs.reverse))) (by rw [← hK]; exact snd_rev) s⟩
end
def gLen : List D → Option D
  | [.lst ds] => some (.int ds.length)
  | [.tup ds] => some (.int ds.length)
  | [.str z] => if z.length ≤ LIM then some (.int z.length) else none
  | _ => none
theorem RpL.one {K : PySem.W.Frag} {x : Bool} {G : Hp} {xs : List V} {d : D} (h : RpL K x G xs [d]) : ∃ v, xs = [v] ∧ Rp K x G v d := by
  cases h with
  | cons h r => cases r; exact ⟨_, rfl, h⟩
theorem RpL.two {K : PySem.W.Frag} {x : Bool} {G : Hp} {xs : List V} {d e : D} (h : RpL K x G xs [d, e]) : ∃ v w, xs = [v, w] ∧ Rp K x G v d ∧ Rp K x G w e := by
  cases h with
  | cons h r =>
    obtain ⟨w, rfl, h2⟩ := r.one
    exact ⟨_, w, rfl, h, h2⟩
theorem snd_len {K : PySem.W.Frag} : SndN K true (fun xs H Q => ∃ x n, xs = [x] ∧ LenV K x H n ∧ Q (.int n) H) gLen := fun G H xs ds d e h q Q k => by
  unfold gLen at q
  split at q
  · cases q
    obtain ⟨v, rfl, hq⟩ := h.one
    obtain ⟨a, xs, rfl, s1, r1⟩ := hq.lst_inv
    exact ⟨_, _, rfl, .inl ⟨xs, .inl (.inl (e _ _ s1)), rfl⟩, by rw [r1.length]; exact k_sc k rfl⟩
  · cases q
    obtain ⟨v, rfl, hq⟩ := h.one
    obtain ⟨a, xs, rfl, s1, r1⟩ := hq.tup_inv
    exact ⟨_, _, rfl, .inr ⟨xs, .inl (.inl (e _ _ s1)), rfl⟩, by rw [r1.length]; exact k_sc k rfl⟩
  · split at q
    · cases q
      rename_i hl
      obtain ⟨v, rfl, hq⟩ := h.one
      rw [hq.str_inv]
      exact ⟨_, _, rfl, ⟨lim_sz hl, rfl⟩, k_sc k rfl⟩
    · cases q
  · cases q
def gMax2 : List D → Option D
  | [.int i, .int j] => some (.int (if j > i then j else i))
  | _ => none
def gMin2 : List D → Option D
  | [.int i, .int j] => some (.int (if j < i then j else i))
  | _ => none
theorem snd_max2 {K : PySem.W.Frag} : SndN K true (fun xs H Q => ∃ i j, xs = [.int i, .int j] ∧ Q (.int (if j > i then j else i)) H) gMax2 := fun G H xs ds d e h q Q k => by
  unfold gMax2 at q
  split at q
  · cases q
    obtain ⟨v, w, rfl, h1, h2⟩ := h.two
    exact ⟨_, _, by rw [h1.int_inv, h2.int_inv], k_sc k rfl⟩
  · cases q
def gInt1 : List D → Option D
  | [.int i] => some (.int i)
  | [.bl b] => some (.int (if b then 1 else 0))
  | _ => none
theorem snd_int1 {K : PySem.W.Frag} : SndN K true (fun xs H Q => (∃ i, xs = [.int i] ∧ Q (.int i) H) ∨ ∃ k, xs = [.bl k] ∧ Q (.int (if k then 1 else 0)) H) gInt1 := fun G H xs ds d e h q Q k => by
  unfold gInt1 at q
  split at q
  · cases q
    obtain ⟨v, rfl, hq⟩ := h.one
    exact .inl ⟨_, by rw [hq.int_inv], k_sc k rfl⟩
  · cases q
    obtain ⟨v, rfl, hq⟩ := h.one
    exact .inr ⟨_, by rw [hq.bl_inv], k_sc k rfl⟩
  · cases q
def chV (z : Str) : List V := z.cps.toList.map fun c => V.str ⟨#[c]⟩
def chD (z : Str) : List D := z.cps.toList.map fun c => D.str ⟨#[c]⟩
theorem chs_rp {K : PySem.W.Frag} {x : Bool} {G : Hp} : ∀ l : List Nat, RpL K x G (l.map fun c => V.str ⟨#[c]⟩) (l.map fun c => D.str ⟨#[c]⟩)
  | [] => .nil
  | c :: l => .cons (.str _) (chs_rp l)
def rListS : List V → Hp → VK → Prop := fun xs H Q => ∃ z : Str, xs = [.str z] ∧ z.length ≤ LIM ∧ ∀ l, H l = none → Q (.ref l) (upd H l (.lst (chV z)))
theorem call_listS {X : Cx} (hc : X.calm = true) : CallR X (.type "list") rListS := by
  intro pp s σ H xs us Q I r h
  obtain ⟨z, rfl, hz, q⟩ := h
  obtain ⟨u, rfl, ru⟩ := r.one
  obtain ⟨t, rfl⟩ := ru
  have hsz : z.cps.size ≤ sizeLine := lim_sz hz
  refine PySem.call_list_str (I.ok.hd hc) z t (fun h' tk acc c' hk e hi => ?_) hsz
  have hl : acc.toList.length = z.cps.size := by rw [Array.length_toList]; exact hi.1
  have hv : Vals (chV z) acc.toList := by
    have e1 : chV z = (List.range acc.toList.length).map fun j => V.str ⟨#[z.cps.toList.getD j 0]⟩ := by
      unfold chV
      apply List.ext_getElem
      · rw [List.length_map, List.length_map, List.length_range, hl, Array.length_toList]
      · intro j h1 h2
        rw [List.length_map] at h1
        rw [List.getElem_map, List.getElem_map, List.getElem_range, List.getD_eq_getElem?_getD, List.getElem?_eq_getElem h1]
        rfl
    rw [e1]
    refine vals_of_get acc.toList _ fun j u hj => ?_
    obtain ⟨c, tu, h1, h2⟩ := hi.2 j u (by rw [← hj, Array.getElem?_toList])
    subst h2
    refine ⟨tu, ?_⟩
    have : z.cps.toList.getD j 0 = c := by
      rw [List.getD_eq_getElem?_getD, Array.getElem?_toList, h1]; rfl
    rw [this]
  refine ⟨.ref s.heap.objs.size, upd H s.heap.objs.size (.lst (chV z)), I.laid hk (Nat.le_refl _) (show ObjOk X.prog X.w _ _ _ (.lst (chV z)) from ⟨?_, acc.toList, c', hv, ?_⟩), rfl, q _ (I.hok.fresh (Nat.le_refl _))⟩
  · rw [hv.length, hl]; exact hsz
  · rw [Array.toArray_toList]; exact e
def gList1 : List D → Option D
  | [.lst ds] => some (.lst ds)
  | [.tup ds] => some (.lst ds)
  | [.str z] => if z.length ≤ LIM then some (.lst (chD z)) else none
  | _ => none
def rList1 (K : PySem.W.Frag) : List V → Hp → VK → Prop := fun xs H Q => (∃ p ys, xs = [.ref p] ∧ (SqL K H p ys ∨ SqT K H p ys) ∧ ∀ l, H l = none → Q (.ref l) (upd H l (.lst ys))) ∨ rListS xs H Q
theorem snd_list1 {K : PySem.W.Frag} : SndN K true (rList1 K) gList1 := fun G H xs ds d e h q Q k => by
  unfold gList1 at q
  split at q
  · cases q
    obtain ⟨v, rfl, hq⟩ := h.one
    obtain ⟨a, xs, rfl, s1, r1⟩ := hq.lst_inv
    exact .inl ⟨_, xs, rfl, .inl (.inl (.inl (e _ _ s1))), fun p hp => k _ _ (Ex.new hp) (new_rp e hp r1) (new_nn hp r1)⟩
  · cases q
    obtain ⟨v, rfl, hq⟩ := h.one
    obtain ⟨a, xs, rfl, s1, r1⟩ := hq.tup_inv
    exact .inl ⟨_, xs, rfl, .inr (.inl (.inl (e _ _ s1))), fun p hp => k _ _ (Ex.new hp) (new_rp e hp r1) (new_nn hp r1)⟩
  · split at q
    · cases q
      rename_i z hz
      obtain ⟨v, rfl, hq⟩ := h.one
      rw [hq.str_inv]
      exact .inr ⟨z, rfl, hz, fun p hp => k _ _ (Ex.new hp) (new_rp e hp (chs_rp _)) (new_nn (G := G) hp (chs_rp _))⟩
    · cases q
  · cases q
def asInts : List D → Option (List Int)
  | [] => some []
  | .int i :: r => (asInts r).map (i :: ·)
  | _ => none
theorem asInts_rp {K : PySem.W.Frag} {x : Bool} {G : Hp} : ∀ {xs : List V} {ds : List D} {ns : List Int}, RpL K x G xs ds → asInts ds = some ns → xs = ns.map V.int
  | _, _, _, .nil, q => by rw [asInts] at q; cases q; rfl
  | _, d :: ds, ns, .cons h r, q => by
    cases d with
    | int i =>
      rw [asInts] at q
      cases z : asInts ds with
      | none => rw [z] at q; cases q
      | some ms => rw [z] at q; cases q; rw [h.int_inv, asInts_rp r z]; rfl
    | _ => rw [asInts] at q <;> first | cases q | (intros; rintro ⟨⟩)
def minL : List Int → Int
  | [] => 0
  | [i] => i
  | i :: r => min i (minL r)
theorem minL_cons (i j : Int) (r : List Int) : minL (i :: j :: r) = min i (minL (j :: r)) := rfl
theorem minL_spec : ∀ (ns : List Int), ns ≠ [] → minL ns ∈ ns ∧ ∀ y ∈ ns, minL ns ≤ y
  | [], h => absurd rfl h
  | [i], _ => by simp [minL]
  | i :: j :: r, _ => by
    obtain ⟨h1, h2⟩ := minL_spec (j :: r) (List.cons_ne_nil _ _)
    rw [minL_cons]
    refine ⟨?_, fun y hy => ?_⟩
    · rcases Int.le_total i (minL (j :: r)) with z | z
      · rw [Int.min_eq_left z]; exact List.mem_cons_self
      · rw [Int.min_eq_right z]; exact List.mem_cons_of_mem _ h1
    · rcases List.mem_cons.mp hy with rfl | hy
      · exact Int.min_le_left _ _
      · exact Int.le_trans (Int.min_le_right _ _) (h2 y hy)
def gMin1 : List D → Option D
  | [.lst ds] => match asInts ds with
    | some ns => if ns = [] then none else some (.int (minL ns))
    | none => none
  | _ => none
theorem len_pos {α : Type} {l : List α} (h : l ≠ []) : 0 < l.length := by
  cases l with
  | nil => exact absurd rfl h
  | cons a r => exact Nat.succ_pos _
theorem snd_min1 {K : PySem.W.Frag} : SndN K true (rMin K) gMin1 := fun G H xs ds d e h q Q k => by
  unfold gMin1 at q
  split at q
  · rename_i ds
    obtain ⟨v, rfl, hq⟩ := h.one
    obtain ⟨a, xs, rfl, s1, r1⟩ := hq.lst_inv
    split at q
    · rename_i ns z
      split at q
      · cases q
      · rename_i hne
        cases q
        obtain ⟨h1, h2⟩ := minL_spec ns hne
        refine ⟨a, ns, rfl, by rw [← asInts_rp r1 z]; exact .inl (.inl (e _ _ s1)), len_pos hne, fun m hm hle => ?_⟩
        have : m = minL ns := Int.le_antisymm (hle _ h1) (h2 m hm)
        rw [this]
        exact k_sc k rfl
    · cases q
  · cases q
def inD (x : D) (ds : List D) : Bool := match x.toV with
  | some v => inV v (ds.filterMap D.toV)
  | none => false
theorem toVs_rp {K : PySem.W.Frag} {x : Bool} {G : Hp} : ∀ {xs : List V} {ds : List D}, RpL K x G xs ds → ds.all D.sc = true → xs = ds.filterMap D.toV
  | _, _, .nil, _ => rfl
  | _, d :: ds, .cons h r, hs => by
    rw [List.all_cons, Bool.and_eq_true] at hs
    rw [List.filterMap_cons, h.toV hs.1, ← toVs_rp r hs.2]
theorem flatV_of {d : D} {v : V} (h : d.toV = some v) : flatV v = true := by
  cases d <;> cases h <;> rfl
theorem flatV_all {K : PySem.W.Frag} {x : Bool} {G : Hp} : ∀ {xs : List V} {ds : List D}, RpL K x G xs ds → ds.all D.sc = true → xs.all flatV = true
  | _, _, .nil, _ => rfl
  | _, d :: ds, .cons h r, hs => by
    rw [List.all_cons, Bool.and_eq_true] at hs
    rw [List.all_cons, flatV_of (h.toV hs.1), flatV_all r hs.2]; rfl
def inOk (a b : D) : Option Bool := match b with
  | .lst ds => if a.sc && ds.all D.sc then some (inD a ds) else none
  | .tup ds => if a.sc && ds.all D.sc then some (inD a ds) else none
  | .str z => match a with
    | .str ⟨⟨[c]⟩⟩ => some (decide (c ∈ z.cps.toList))
    | _ => none
  | _ => none
def gNotIn (a b : D) : Option D := (inOk a b).map fun k => .bl (!k)
def rNotIn2 (K : PySem.W.Frag) : R2 := fun x y H Q => rIn K true x y H Q ∨ ∃ (c : Nat) (z : Str), x = .str ⟨#[c]⟩ ∧ y = .str z ∧ Q (.bl (!decide (c ∈ z.cps.toList))) H
theorem op_notIn2 {X : Cx} : OpR X (compareOp .NotIn) (rNotIn2 X.K) := op_notIn_seq.or op_notIn_sign
theorem inOk_cases {K : PySem.W.Frag} {G H : Hp} {x y : V} {a b : D} {k : Bool} (e : Ex G H) (h1 : Rp K true G x a) (h2 : Rp K true G y b) (q : inOk a b = some k) :
    (∃ p xs, y = .ref p ∧ (SqL K H p xs ∨ SqT K H p xs) ∧ flatV x = true ∧ xs.all flatV = true ∧ inV x xs = k) ∨ ∃ (c : Nat) (z : Str), x = .str ⟨#[c]⟩ ∧ y = .str z ∧ decide (c ∈ z.cps.toList) = k := by
  unfold inOk at q
  split at q
  · split at q
    · rename_i hs
      rw [Bool.and_eq_true] at hs
      cases q
      obtain ⟨p, xs, rfl, s1, r1⟩ := h2.lst_inv
      refine .inl ⟨p, xs, rfl, .inl (.inl (.inl (e _ _ s1))), flatV_of (h1.toV hs.1), flatV_all r1 hs.2, ?_⟩
      unfold inD
      rw [h1.toV hs.1, toVs_rp r1 hs.2]
    · cases q
  · split at q
    · rename_i hs
      rw [Bool.and_eq_true] at hs
      cases q
      obtain ⟨p, xs, rfl, s1, r1⟩ := h2.tup_inv
      refine .inl ⟨p, xs, rfl, .inr (.inl (.inl (e _ _ s1))), flatV_of (h1.toV hs.1), flatV_all r1 hs.2, ?_⟩
      unfold inD
      rw [h1.toV hs.1, toVs_rp r1 hs.2]
    · cases q
  · split at q
    · cases q
      exact .inr ⟨_, _, h1.str_inv, h2.str_inv, rfl⟩
    · cases q
  · cases q
theorem snd_notIn {K : PySem.W.Frag} : Snd2 K true (rNotIn2 K) gNotIn := fun G H x y d1 d2 d e h1 h2 q Q k => by
  unfold gNotIn at q
  cases z : inOk d1 d2 with
  | none => rw [z] at q; cases q
  | some b =>
    rw [z] at q
    cases q
    rcases inOk_cases e h1 h2 z with ⟨p, xs, a1, a2, a3, a4, t⟩ | ⟨c, z, a1, a2, t⟩
    · exact .inl ⟨p, xs, a1, a2, a3, a4, by rw [if_pos rfl, t]; exact k_sc k rfl⟩
    · exact .inr ⟨c, z, a1, a2, by rw [t]; exact k_sc k rfl⟩
end MV
namespace MV
open PySem L2
section
variable {cf : Cf} {R : Rs} {Hs : Hp} {env : PEnv} {σ : L2.St} {H : Hp} {F : Nat → List Addr} {wf : List Addr}
theorem get_set {α : Type} {l : List α} {i j : Nat} {x y : α} (h : (l.set i x)[j]? = some y) : (i = j ∧ x = y ∧ i < l.length) ∨ (i ≠ j ∧ l[j]? = some y) := by
  by_cases e : i = j
  · subst e
    by_cases hl : i < l.length
    · rw [List.getElem?_set_self hl] at h; exact .inl ⟨rfl, Option.some.inj h, hl⟩
    · rw [List.getElem?_eq_none (by rw [List.length_set]; omega)] at h; cases h
  · rw [List.getElem?_set_ne e] at h; exact .inr ⟨e, h⟩
theorem Rel.put (r : Rel cf R Hs env σ H F wf) {i : Nat} {v : V} {d : D} (hw : cf.kd i ≠ .W) (hs : ∀ F', SlotR cf.K R Hs H F' (cf.kd i) v d) : Rel cf R Hs (env.set i (some d)) (σ.set i (some v)) H F wf where
  len := by rw [List.length_set, List.length_set]; exact r.len
  exs := r.exs
  ex0 := r.ex0
  dom0 := r.dom0
  slot := fun j d' h => by
    rcases get_set h with ⟨rfl, e, hl⟩ | ⟨ne, h⟩
    · cases e
      exact ⟨v, by rw [List.getElem?_set_self (by rw [← r.len]; exact hl)], hs _⟩
    · obtain ⟨w, h1, h2⟩ := r.slot j d' h
      exact ⟨w, by rw [List.getElem?_set_ne ne]; exact h1, h2⟩
  nod := r.nod
  dis := r.dis
  fdom := r.fdom
  uns := r.uns
  new := r.new
  volw := r.volw
  volb := r.volb
  wdom := r.wdom
  ior := fun p h => by
    obtain ⟨h1, h2, h3, d', h4⟩ := r.ior p h
    have ne : i ≠ 0 := fun e => by subst e; exact hw h3
    exact ⟨by rw [List.getElem?_set_ne ne]; exact h1, h2, h3, d', by rw [List.getElem?_set_ne ne]; exact h4⟩
theorem Rel.mut (r : Rel cf R Hs env σ H F wf) {i : Nat} {p : Addr} {o' : HO} {v : V} {d0 d' : D} (hp : p ∈ F i) (he : env[i]? = some (some d0)) (hv : σ[i]? = some (some v)) (hs : SlotR cf.K R Hs (upd H p o') (F i) (cf.kd i) v d') : Rel cf R Hs (env.set i (some d')) σ (upd H p o') F wf where
  len := by rw [List.length_set]; exact r.len
  exs := fun a o h => by
    rw [upd_ne (fun e => by subst e; rw [r.uns i _ hp] at h; cases h)]; exact r.exs a o h
  ex0 := r.ex0
  dom0 := fun a h => by
    by_cases e : a = p
    · subst e; rw [upd_same]; exact fun z => by cases z
    · rw [upd_ne e]; exact r.dom0 a h
  slot := fun j d h => by
    rcases get_set h with ⟨rfl, e, hl⟩ | ⟨ne, h⟩
    · cases e
      exact ⟨v, hv, hs⟩
    · obtain ⟨w, h1, h2⟩ := r.slot j d h
      refine ⟨w, h1, ?_⟩
      have np : ∀ a ∈ F j, ∀ o, H a = some o → upd H p o' a = some o := fun a m o h => by
        rw [upd_ne (fun e => by subst e; exact r.dis i j ne _ hp m)]; exact h
      cases q : cf.kd j with
      | S => rw [q] at h2; exact h2
      | N => rw [q] at h2; exact h2
      | Q => rw [q] at h2; exact h2
      | P => rw [q] at h2; exact Own.keep (Ex.refl _) h2 np
      | M => rw [q] at h2; exact ⟨Own.keep (Ex.refl _) h2.1 np, h2.2⟩
      | W =>
        rw [q] at h2
        obtain ⟨p2, xs, ds, e1, e2, e3, e4, e5⟩ := h2
        exact ⟨p2, xs, ds, e1, e2, e3, np p2 (by rw [e3]; exact List.mem_singleton.mpr rfl) _ e4, e5⟩
  nod := r.nod
  dis := r.dis
  fdom := fun j a h => by
    by_cases e : a = p
    · subst e; rw [upd_same]; exact fun z => by cases z
    · rw [upd_ne e]; exact r.fdom j a h
  uns := r.uns
  new := r.new
  volw := r.volw
  volb := r.volb
  wdom := fun a h => by
    obtain ⟨h1, h2⟩ := r.wdom a h
    refine ⟨?_, h2⟩
    by_cases e : a = p
    · subst e; rw [upd_same]; exact fun z => by cases z
    · rw [upd_ne e]; exact h1
  ior := fun p h => by
    obtain ⟨h1, h2, h3, d'', h4⟩ := r.ior p h
    refine ⟨h1, h2, h3, ?_⟩
    by_cases e : i = 0
    · subst e
      have hl : 0 < env.length := (List.getElem?_eq_some_iff.mp he).1
      exact ⟨d', by rw [List.getElem?_set_self hl]⟩
    · exact ⟨d'', by rw [List.getElem?_set_ne e]; exact h4⟩
theorem Rel.own {env1 : PEnv} {Hs1 H1 : Hp} (r : Rel cf R Hs env σ H F wf) (s1 : Stp cf wf env Hs H env1 Hs1 H1) (r1 : Rel cf R Hs1 env1 σ H1 F wf) {i : Nat} {v : V} {d : D} {Fn wf' : List Addr} (hio : R.io ≠ none → i ≠ 0)
    (hn : Fn.Nodup) (hnew : ∀ a ∈ Fn, H a = none ∧ H1 a ≠ none) (hwf : ∀ a, a ∈ wf' ↔ a ∈ wf ∨ (cf.kd i = .W ∧ a ∈ Fn))
    (hs : SlotR cf.K R (rm Hs1 Fn) H1 Fn (cf.kd i) v d) : Rel cf R (rm Hs1 Fn) (env1.set i (some d)) (σ.set i (some v)) H1 (fun j => if j = i then Fn else F j) wf' ∧ Ex Hs (rm Hs1 Fn) := by
  have old : ∀ a, H a ≠ none → a ∉ Fn := fun a h m => h (hnew a m).1
  have exs : Ex Hs (rm Hs1 Fn) := fun a o h => by
    have : a ∉ Fn := old a (by rw [r.exs a o h]; exact fun z => by cases z)
    unfold rm
    rw [if_neg this]
    exact s1.ex a o h
  have sub : Ex (rm Hs1 Fn) Hs1 := rm_sub _ _
  refine ⟨?_, exs⟩
  constructor
  case len => rw [List.length_set, List.length_set]; exact r1.len
  case exs => exact sub.trans r1.exs
  case ex0 => exact fun a o h n => exs a o (r.ex0 a o h n)
  case dom0 => exact r1.dom0
  case slot =>
    intro j d' h
    rcases get_set h with ⟨rfl, e, hl⟩ | ⟨ne, h⟩
    · cases e
      exact ⟨v, by rw [List.getElem?_set_self (by rw [← r1.len]; exact hl)], by rw [if_pos rfl]; exact hs⟩
    · obtain ⟨w, h1, h2⟩ := r1.slot j d' h
      refine ⟨w, by rw [List.getElem?_set_ne ne]; exact h1, ?_⟩
      rw [if_neg (Ne.symm ne)]
      by_cases hw : cf.kd j = .W
      · rw [hw] at h2 ⊢; exact h2
      · have h' : env[j]? = some (some d') := by rw [← s1.kp j hw]; exact h
        obtain ⟨w0, g1, g2⟩ := r.slot j d' h'
        have ew : w0 = w := by rw [g1] at h1; cases h1; rfl
        subst ew
        cases q : cf.kd j with
        | S => rw [q] at g2; exact Rp.mono exs g2
        | N => rw [q] at g2; exact Rp.mono (rs_mono exs) g2
        | Q => rw [q] at g2; exact Rp.mono exs g2
        | P => rw [q] at g2; exact Own.keep (th_mono (rs_mono exs)) g2 fun a m o ha => s1.keep a o (r.volb j hw a m) ha
        | M => rw [q] at g2; exact ⟨Own.keep (rs_mono exs) g2.1 fun a m o ha => s1.keep a o (r.volb j hw a m) ha, g2.2⟩
        | W => exact absurd q hw
  case nod =>
    intro j
    by_cases e : j = i
    · rw [if_pos e]; exact hn
    · rw [if_neg e]; exact r.nod j
  case dis =>
    intro j k ne a m
    by_cases e : j = i
    · subst e
      rw [if_pos rfl] at m
      rw [if_neg (Ne.symm ne)]
      exact fun m2 => r.fdom k a m2 (hnew a m).1
    · rw [if_neg e] at m
      by_cases e2 : k = i
      · rw [if_pos e2]; exact old a (r.fdom j a m)
      · rw [if_neg e2]; exact r.dis j k ne a m
  case fdom =>
    intro j a m
    by_cases e : j = i
    · rw [if_pos e] at m; exact (hnew a m).2
    · rw [if_neg e] at m; exact r1.fdom j a m
  case uns =>
    intro j a m
    by_cases e : j = i
    · rw [if_pos e] at m; unfold rm; rw [if_pos m]
    · rw [if_neg e] at m
      unfold rm
      split
      · rfl
      · exact r1.uns j a m
  case new =>
    intro j a m
    by_cases e : j = i
    · rw [if_pos e] at m
      refine .inr ?_
      cases q : R.H0 a with
      | none => rfl
      | some o => exact absurd (hnew a m).1 (r.dom0 a (by rw [q]; exact fun z => by cases z))
    · rw [if_neg e] at m; exact r.new j a m
  case volw =>
    intro j hk a m
    rw [hwf]
    by_cases e : j = i
    · subst e; rw [if_pos rfl] at m; exact .inr ⟨hk, m⟩
    · rw [if_neg e] at m; exact .inl (r.volw j hk a m)
  case volb =>
    intro j hk a m z
    rcases (hwf a).mp z with z | ⟨z1, z2⟩
    · by_cases e : j = i
      · rw [if_pos e] at m; exact (r.wdom a z).1 (hnew a m).1
      · rw [if_neg e] at m; exact r.volb j hk a m z
    · by_cases e : j = i
      · subst e; exact hk z1
      · rw [if_neg e] at m; exact r.fdom j a m (hnew a z2).1
  case wdom =>
    intro a m
    rcases (hwf a).mp m with z | ⟨z1, z2⟩
    · obtain ⟨g1, g2⟩ := r1.wdom a z
      refine ⟨g1, ?_⟩
      unfold rm
      split
      · rfl
      · exact g2
    · refine ⟨(hnew a z2).2, ?_⟩
      unfold rm
      rw [if_pos z2]
  case ior =>
    intro p h
    obtain ⟨h1, h2, h3, d', h4⟩ := r1.ior p h
    have ne : i ≠ 0 := hio (by rw [h]; exact fun z => by cases z)
    exact ⟨by rw [List.getElem?_set_ne ne]; exact h1, by rw [if_neg (Ne.symm ne)]; exact h2, h3, d', by rw [List.getElem?_set_ne ne]; exact h4⟩
end
def SG (X : Cx) (cf : Cf) (W : WX) (c : Cls) (n : Bool) (i : Nat) (st : Stmt) (f : M D) : Prop := ∃ te, PS X st (tAsg te (gName i)) ∧ Sd cf W c n te f
def sSet (i : Nat) (f : M D) : M Fl := bnd f fun d => fun e => .ok .nx (e.set i (some d))
def mok : D → Bool
  | .lst ds => ds.all fun x => x.sc || match x with | .tup es => es.all D.sc | _ => false
  | d => d.sc
def sSetM (i : Nat) (f : M D) : M Fl := bnd f fun d => bnd (lift (if mok d then some d else none)) fun d => fun e => .ok .nx (e.set i (some d))
def wok : D → Bool
  | .lst ds => ds.all D.sc
  | _ => false
def sSetW (i : Nat) (f : M D) : M Fl := bnd f fun d => bnd (lift (if wok d then some d else none)) fun d => fun e => .ok .nx (e.set i (some d))
def eS (f : M D) : M D := bnd f fun d => lift (if d.sc then some d else none)
section
variable {X : Cx} {cf : Cf} {W : WX} {c : Cls} {n : Bool} {i : Nat}
theorem SE.scal {e : Expr} {te : TE} {f : M D} (h : SE X cf W c n e te f) : SE X cf W .V true e te (eS f) := by
  obtain ⟨p, s⟩ := h
  refine ⟨p, Sd.mk (fun R Hs env σ H F wf r d env' q Q k => ?_) (fun R Hs env σ H F wf r x env' q Q k => ?_)⟩
  · obtain ⟨d1, env1, q1, q⟩ := bnd_ok q
    obtain ⟨qg, rfl⟩ := lift_ok q
    split at qg
    · cases qg
      rename_i hs
      exact s.ok r q1 fun v Hs1 H1 s1 r1 p1 _ => k v Hs1 H1 s1 r1 (p1.sc_any hs _ _) fun _ _ => p1.sc_any hs _ _
    · cases qg
  · rcases bnd_ex q with q | ⟨d1, env1, q1, q⟩
    · exact s.exn r q k
    · exact (lift_ex q).elim
theorem Post.mono {R : Rs} {Hs Hs' : Hp} {D : Ends} (e : Ex Hs Hs') : ∀ {g : Res Fl}, Post cf W R Hs D g → Post cf W R Hs' D g
  | .ok .nx _, h => fun Hs2 σ' H' F' wf' e2 r => h Hs2 σ' H' F' wf' (e.trans e2) r
  | .ok (.rt _) _, h => fun v Hs2 σ' H' F' wf' e2 r => h v Hs2 σ' H' F' wf' (e.trans e2) r
  | .ok .bk _, h => fun Hs2 σ' H' F' wf' e2 r => h Hs2 σ' H' F' wf' (e.trans e2) r
  | .ok .ct _, h => fun Hs2 σ' H' F' wf' e2 r => h Hs2 σ' H' F' wf' (e.trans e2) r
  | .ex _ _, h => fun Hs2 σ' H' F' wf' e2 r => h Hs2 σ' H' F' wf' (e.trans e2) r
  | .stuck, h => h
theorem Sd.bind {te : TE} {f : M D} {g : D → M Fl} {R : Rs} {Hs : Hp} {env : PEnv} {σ : L2.St} {H : Hp} {F : Nat → List Addr} {wf : List Addr} {D : Ends} {Q : VK} (s : Sd cf W c n te f) (r : Rel cf R Hs env σ H F wf) (hp : Post cf W R Hs D (bnd f g env))
    (k : ∀ d env1 v Hs1 H1, Stp cf wf env Hs H env1 Hs1 H1 → Rel cf R Hs1 env1 σ H1 F wf → Rp cf.K true (rg c R.H0 Hs1 H H1 wf) v d → Nr cf.K n H Hs1 v d → Post cf W R Hs D (g d env1) → Q v H1) : te σ H Q := by
  unfold bnd at hp
  cases q : f env with
  | ok d env1 => rw [q] at hp; exact s.ok r q fun v Hs1 H1 s1 r1 p1 nr => k d env1 v Hs1 H1 s1 r1 p1 nr hp
  | ex x env1 => rw [q] at hp; exact s.exn r q fun Hs1 H1 s1 r1 => hp Hs1 σ H1 F wf s1.ex r1
  | stuck => rw [q] at hp; exact hp.elim
theorem SdT.bind {tt : TT} {f : M Bool} {g : Bool → M Fl} {R : Rs} {Hs : Hp} {env : PEnv} {σ : L2.St} {H : Hp} {F : Nat → List Addr} {wf : List Addr} {D : Ends} {Q : Bool → Hp → Prop} (s : SdT cf W tt f) (r : Rel cf R Hs env σ H F wf) (hp : Post cf W R Hs D (bnd f g env))
    (k : ∀ b env1 Hs1 H1, Stp cf wf env Hs H env1 Hs1 H1 → Rel cf R Hs1 env1 σ H1 F wf → Post cf W R Hs D (g b env1) → Q b H1) : tt σ H Q := by
  unfold bnd at hp
  cases q : f env with
  | ok d env1 => rw [q] at hp; exact s.ok r q fun Hs1 H1 s1 r1 => k d env1 Hs1 H1 s1 r1 hp
  | ex x env1 => rw [q] at hp; exact s.exn r q fun Hs1 H1 s1 r1 => hp Hs1 σ H1 F wf s1.ex r1
  | stuck => rw [q] at hp; exact hp.elim
theorem post_lift {α : Type} {o : Option α} {g : α → M Fl} {R : Rs} {Hs : Hp} {env : PEnv} {D : Ends} (hp : Post cf W R Hs D (bnd (lift o) g env)) : ∃ a, o = some a ∧ Post cf W R Hs D (g a env) := by
  cases o with
  | none => exact hp.elim
  | some a => exact ⟨a, rfl, hp⟩
theorem ss_setS {st : Stmt} {f : M D} (h : SG X cf W .S n i st f) (hk : cf.kd i = .S) : SS X cf W st (sSet i f) := by
  obtain ⟨te, p, s⟩ := h
  refine ⟨_, p, fun R Hs env σ H F wf r D hp => s.bind r hp fun d env1 v Hs1 H1 s1 r1 p1 _ hp => ?_⟩
  exact hp Hs1 _ H1 F wf s1.ex (r1.put (by rw [hk]; exact fun z => by cases z) fun F' => by rw [hk]; exact p1)
theorem ss_setN {st : Stmt} {f : M D} (h : SG X cf W .N n i st f) (hk : cf.kd i = .N) : SS X cf W st (sSet i f) := by
  obtain ⟨te, p, s⟩ := h
  refine ⟨_, p, fun R Hs env σ H F wf r D hp => s.bind r hp fun d env1 v Hs1 H1 s1 r1 p1 _ hp => ?_⟩
  exact hp Hs1 _ H1 F wf s1.ex (r1.put (by rw [hk]; exact fun z => by cases z) fun F' => by rw [hk]; exact p1)
theorem items_off {K : PySem.W.Frag} {A G : Hp} {p : Addr} {xs0 : List V} (hp : A p = some (.lst xs0)) (e : ∀ a o, a ≠ p → A a = some o → G a = some o) : ∀ {xs : List V} {ds : List D}, RpL K true A xs ds → (ds.all fun x => x.sc || match x with | .tup es => es.all D.sc | _ => false) = true → RpL K true G xs ds
  | _, _, .nil, _ => .nil
  | _, d :: ds, .cons h r, hs => by
    rw [List.all_cons, Bool.and_eq_true] at hs
    refine .cons ?_ (items_off hp e r hs.2)
    by_cases z : d.sc = true
    · exact h.sc_any z _ _
    · have h1 := hs.1
      rw [Bool.or_eq_true] at h1
      rcases h1 with h1 | h1
      · exact absurd h1 z
      · cases d with
        | tup es =>
          obtain ⟨a, ys, rfl, s1, r1⟩ := h.tup_inv
          have na : a ≠ p := fun z => by
            subst z
            have s1 : A a = some (.tup ys) := s1
            rw [hp] at s1; cases s1
          exact .tup (show G a = _ from e a _ na s1) (r1.sc_any h1 _ _)
        | _ => cases h1
theorem ss_setM {st : Stmt} {f : M D} (h : SG X cf W .V n i st f) (hk : cf.kd i = .M) : SS X cf W st (sSetM i f) := by
  obtain ⟨te, p, s⟩ := h
  refine ⟨_, p, fun R Hs env σ H F wf r D hp => s.bind r hp fun d env1 v Hs1 H1 s1 r1 p1 _ hp => ?_⟩
  obtain ⟨d', e, hp⟩ := post_lift hp
  split at e
  · cases e
    rename_i hm
    have p1 : Rp cf.K true (rs Hs1 H) v d := p1
    cases d with
    | lst ds =>
      obtain ⟨a, xs, rfl, h1, h2⟩ := p1.lst_inv
      have h1 : rs Hs1 H a = some (.lst xs) := h1
      have hna : H a = none := by
        cases z : H a with
        | none => rfl
        | some o => rw [rs_some z] at h1; cases h1
      rw [rs_none hna] at h1
      have hio : R.io ≠ none → i ≠ 0 := fun hh e => by
        cases z : R.io with
        | none => exact hh z
        | some q =>
          obtain ⟨_, _, h3, _⟩ := r.ior q z
          rw [← e, hk] at h3; cases h3
      obtain ⟨r2, e2⟩ := r.own s1 r1 (i := i) (v := .ref a) (d := .lst ds) (Fn := [a]) (wf' := wf) hio (by simp)
        (fun b m => by
          rw [List.mem_singleton.mp m]
          exact ⟨hna, by rw [r1.exs _ _ h1]; exact fun z => by cases z⟩)
        (fun b => ⟨.inl, fun z => z.elim id fun z => by rw [hk] at z; cases z.1⟩)
        (by
          rw [hk]
          refine ⟨Own.lst (r1.exs _ _ h1) (ownL_of ?_), fun z => (by cases z), Nat.le_refl _⟩
          refine items_off (A := rs Hs1 H) (p := a) (xs0 := xs) (by rw [rs_none hna]; exact h1) (fun b o nb hb => ?_) h2 hm
          have hb0 : H b = none := by
            cases z : H b with
            | none => rfl
            | some o => rw [rs_some z] at hb; cases hb
          rw [rs_none hb0] at hb
          have h00 : R.H0 b = none := by
            cases z : R.H0 b with
            | none => rfl
            | some o => exact absurd hb0 (r.dom0 b (by rw [z]; exact fun z => by cases z))
          rw [rs_none h00]
          unfold rm
          rw [if_neg (fun m => nb (List.mem_singleton.mp m))]
          exact hb)
      exact hp _ _ H1 _ wf e2 r2
    | _ =>
      obtain ⟨r2, e2⟩ := r.own s1 r1 (i := i) (v := v) (d := _) (Fn := []) (wf' := wf) (fun hh e => by
            cases z : R.io with
            | none => exact hh z
            | some q =>
              obtain ⟨_, _, h3, _⟩ := r.ior q z
              rw [← e, hk] at h3; cases h3) (by simp) (fun b m => by cases m) (fun b => ⟨.inl, fun z => z.elim id fun z => by cases z.2⟩) (by
            rw [hk]
            exact ⟨.leaf (p1.sc_any hm _ _), fun _ => hm, Nat.zero_le _⟩)
      exact hp _ _ H1 _ wf e2 r2
  · cases e
theorem ss_setW {st : Stmt} {f : M D} (h : SG X cf W .V n i st f) (hk : cf.kd i = .W) (h0 : i ≠ 0) : SS X cf W st (sSetW i f) := by
  obtain ⟨te, p, s⟩ := h
  refine ⟨_, p, fun R Hs env σ H F wf r D hp => s.bind r hp fun d env1 v Hs1 H1 s1 r1 p1 _ hp => ?_⟩
  obtain ⟨d', e, hp⟩ := post_lift hp
  split at e
  · cases e
    rename_i hm
    have p1 : Rp cf.K true (rs Hs1 H) v d := p1
    cases d with
    | lst ds =>
      obtain ⟨a, xs, rfl, h1, h2⟩ := p1.lst_inv
      have h1 : rs Hs1 H a = some (.lst xs) := h1
      have hna : H a = none := by
        cases z : H a with
        | none => rfl
        | some o => rw [rs_some z] at h1; cases h1
      rw [rs_none hna] at h1
      obtain ⟨r2, e2⟩ := r.own s1 r1 (i := i) (v := .ref a) (d := .lst ds) (Fn := [a]) (wf' := a :: wf) (fun _ => h0) (by simp)
        (fun b m => by
          rw [List.mem_singleton.mp m]
          exact ⟨hna, by rw [r1.exs _ _ h1]; exact fun z => by cases z⟩)
        (fun b => by
          rw [List.mem_cons, List.mem_singleton]
          exact ⟨fun z => z.elim (fun z => .inr ⟨hk, z⟩) .inl, fun z => z.elim .inr fun z => .inl z.2⟩)
        (by
          rw [hk]
          exact ⟨a, xs, ds, rfl, rfl, rfl, r1.exs _ _ h1, hm, h2.sc_any hm _ _⟩)
      exact hp _ _ H1 _ _ e2 r2
    | _ => cases hm
  · cases e
theorem sg_of {x : Str} {e : Expr} {te : TE} {f : M D} {pos' pos : Pos} (h : SE X cf W c n e te f) (hN : X.N.Nodup) (hi : X.N[i]? = some x) (hx : Loc X.env.scope x) (hs : swapsWith e (some (.Name x pos')) pos.line X.env = pure false := by rfl) (hf : X.fn x = true ∨ X.env.scope.names.lookup x = some .local := by first | exact .inl rfl | exact .inr rfl | assumption) :
    SG X cf W c n i (.Assign [.Name x pos'] e pos) f := by
  obtain ⟨p, s⟩ := h
  exact ⟨te, ps_set hN hi hx p hs hf, s⟩
theorem SG.le {c' : Cls} {st : Stmt} {f : M D} (h : SG X cf W c n i st f) (l : Cls.Le c c') : SG X cf W c' n i st f := let ⟨t, p, s⟩ := h; ⟨t, p, s.le l⟩
def sSkip : M Fl := ret .nx
def sSeq (a b : M Fl) : M Fl := bnd a fun f => match f with
  | .nx => b
  | o => ret o
def sDrop (f : M D) : M Fl := bnd f fun _ => ret .nx
def sRet (f : M D) : M Fl := bnd f fun d => ret (.rt d)
def sIf (t : M Bool) (a b : M Fl) : M Fl := bnd t fun k => if k then a else b
def sBrk : M Fl := ret .bk
def sCont : M Fl := ret .ct
theorem sss_nil : SSs X cf W [] sSkip := ⟨_, pss_nil, fun R Hs env σ H F wf r D hp => hp Hs σ H F wf (Ex.refl _) r⟩
theorem sds_seq {t u : TS} {a b : M Fl} (ha : SdS cf W t a) (hb : SdS cf W u b) : SdS cf W (tSeq t u) (sSeq a b) := by
  intro R Hs env σ H F wf r D hp
  refine ha R Hs env σ H F wf r { D with nx := u D } ?_
  unfold sSeq bnd at hp
  cases q : a env with
  | ok f env1 =>
    rw [q] at hp
    cases f with
    | nx => exact fun Hs' σ' H' F' wf' e r' => hb R Hs' env1 σ' H' F' wf' r' D (hp.mono e)
    | rt d => exact hp
    | bk => exact hp
    | ct => exact hp
  | ex x env1 => rw [q] at hp; exact hp
  | stuck => rw [q] at hp; exact hp
theorem sss_cons {st : Stmt} {rest : List Stmt} {a b : M Fl} (ha : SS X cf W st a) (hb : SSs X cf W rest b) : SSs X cf W (st :: rest) (sSeq a b) := let ⟨_, p, s⟩ := ha; let ⟨_, p2, s2⟩ := hb; ⟨_, pss_cons p p2, sds_seq s s2⟩
theorem sss_one {st : Stmt} {a : M Fl} (ha : SS X cf W st a) : SSs X cf W [st] a := let ⟨_, p, s⟩ := ha; ⟨_, pss_one p, s⟩
theorem ss_expr {e : Expr} {te : TE} {f : M D} {pos : Pos} (h : SE X cf W c n e te f) (hs : swapsWith e none pos.line X.env = pure false := by rfl) : SS X cf W (.Expr e pos) (sDrop f) := by
  obtain ⟨p, s⟩ := h
  exact ⟨_, ps_expr p hs, fun R Hs env σ H F wf r D hp => s.bind r hp fun d env1 v Hs1 H1 s1 r1 p1 _ hp => hp Hs1 σ H1 F wf s1.ex r1⟩
theorem ss_ret {e : Expr} {te : TE} {f : M D} {pos : Pos} (h : SE X cf W .L n e te f) : SS X cf W (.Return (some e) pos) (sRet f) := by
  obtain ⟨p, s⟩ := h
  exact ⟨_, ps_ret p, fun R Hs env σ H F wf r D hp => s.bind r hp fun d env1 v Hs1 H1 s1 r1 p1 _ hp => hp v Hs1 σ H1 F wf s1.ex r1 p1⟩
def sRetN : M Fl := ret (.rt .non)
theorem ss_if {e : Expr} {a b : List Stmt} {tt : TT} {ft : M Bool} {fa fb : M Fl} {pos : Pos} (ht : ST X cf W e tt ft) (ha : SSs X cf W a fa) (hb : SSs X cf W b fb) : SS X cf W (.If e a b pos) (sIf ft fa fb) := by
  obtain ⟨p, s⟩ := ht
  obtain ⟨ta, pa, sa⟩ := ha
  obtain ⟨tb, pb, sb⟩ := hb
  refine ⟨_, ps_if p pa pb, fun R Hs env σ H F wf r D hp => s.bind r hp fun k env1 Hs1 H1 s1 r1 hp => ?_⟩
  cases k with
  | true => exact sa R Hs1 env1 σ H1 F wf r1 D (Post.mono s1.ex hp)
  | false => exact sb R Hs1 env1 σ H1 F wf r1 D (Post.mono s1.ex hp)
def sAft (go : M Fl) : Fl → M Fl
  | .nx => go
  | .ct => go
  | .bk => ret .nx
  | .rt d => ret (.rt d)
def sWhile (t : M Bool) (b : M Fl) : Nat → M Fl
  | 0 => fail
  | n + 1 => bnd t fun k => if k then bnd b (sAft (sWhile t b n)) else ret .nx
theorem ss_while {e : Expr} {body : List Stmt} {tt : TT} {ft : M Bool} {fb : M Fl} {pos : Pos} (m : Nat) (hp : PassesOwn (model X.prog X.w) X.A X.env X.xe) (ht : ST X cf W e tt ft) (hb : SSs X cf W body fb) : SS X cf W (.While e body [] pos) (sWhile ft fb m) := by
  obtain ⟨p, s⟩ := ht
  obtain ⟨tb, pb, sb⟩ := hb
  refine ⟨_, ps_while hp p pb, fun R Hs env σ H F wf r D hp => ?_⟩
  refine ⟨fun m σ H => ∃ Hs1 env F wf, Ex Hs Hs1 ∧ Rel cf R Hs1 env σ H F wf ∧ Post cf W R Hs1 D (sWhile ft fb m env), ⟨m, Hs, env, F, wf, Ex.refl _, r, hp⟩, ?_⟩
  rintro m σ H ⟨Hs1, env, F, wf, e1, r, hp⟩
  cases m with
  | zero => exact hp.elim
  | succ m =>
    refine s.bind r hp fun k env1 Hs2 H2 s2 r2 hp => ?_
    have hp := Post.mono s2.ex hp
    cases k with
    | false => exact hp Hs2 σ H2 F wf (Ex.refl _) r2
    | true =>
      refine ⟨fun σ' H' => ∃ Hs3 env F wf, Ex Hs Hs3 ∧ Rel cf R Hs3 env σ' H' F wf ∧ Post cf W R Hs3 D (sWhile ft fb m env), fun σ' H' h => ⟨m, Nat.lt_succ_self m, h⟩, ?_⟩
      refine sb R Hs2 env1 σ H2 F wf r2 _ ?_
      have hp : Post cf W R Hs2 D (bnd fb (sAft (sWhile ft fb m)) env1) := hp
      unfold bnd at hp
      cases q : fb env1 with
      | ok f env2 =>
        rw [q] at hp
        cases f with
        | nx => exact fun Hs' σ' H' F' wf' e r' => ⟨Hs', env2, F', wf', (e1.trans s2.ex).trans e, r', Post.mono e hp⟩
        | ct => exact fun Hs' σ' H' F' wf' e r' => ⟨Hs', env2, F', wf', (e1.trans s2.ex).trans e, r', Post.mono e hp⟩
        | bk => exact fun Hs' σ' H' F' wf' e r' => hp Hs' σ' H' F' wf' e r'
        | rt d => exact hp
      | ex x env2 => rw [q] at hp; exact hp
      | stuck => rw [q] at hp; exact hp
end
end MV
namespace MV
open PySem L2
structure ItOk (K : PySem.W.Frag) (J : It) (Hs1 : Hp) (ds : List D) : Prop where
  go : ∀ i H, i < ds.length → Ex Hs1 H → J.go i H
  stop : ∀ H, Ex Hs1 H → J.stop ds.length H
  yld : ∀ i H x H', Ex Hs1 H → i < ds.length → J.yld i H x H' → Ex H H' ∧ ∀ G, Ex Hs1 G → Ex G H → ∃ d, ds[i]? = some d ∧ Rp K true (grow G H H') x d
def SdI (cf : Cf) (W : WX) (wi : TI) (fi : M (List D)) : Prop :=
  ∀ (R : Rs) (Hs : Hp) (env : PEnv) (σ : L2.St) (H : Hp) (F : Nat → List Addr) (wf : List Addr), Rel cf R Hs env σ H F wf → ∀ Rk : It → Hp → Prop,
    match fi env with
    | .ok ds env' => (∀ J Hs' H', Stp cf wf env Hs H env' Hs' H' → Rel cf R Hs' env' σ H' F wf → ItOk cf.K J Hs' ds → Rk J H') → wi σ H Rk
    | .ex x env' => (∀ Hs' H', Stp cf wf env Hs H env' Hs' H' → Rel cf R Hs' env' σ H' F wf → W (cf.cv x) none σ H') → wi σ H Rk
    | .stuck => True
structure SI (X : Cx) (cf : Cf) (W : WX) (tg iter : Expr) (wi : TI) (fi : M (List D)) : Prop where
  p : PI X tg iter wi
  s : SdI cf W wi fi
section
variable {K : PySem.W.Frag}
theorem itl_ok {a : Addr} {xs : List V} {ds : List D} {Hs1 : Hp} (h : Hs1 a = some (.lst xs)) (r : RpL K true Hs1 xs ds) : ItOk K (Itl K a) Hs1 ds where
  go := fun i H hi e => by
    have hi' : i < xs.length := by rw [r.length]; exact hi
    exact ⟨xs, xs[i], .inl (.inl (e _ _ h)), by simp [hi']⟩
  stop := fun H e => ⟨xs, .inl (.inl (e _ _ h)), by rw [r.length]; exact Nat.le_refl _⟩
  yld := fun i H x H' e hi y => by
    obtain ⟨rfl, y⟩ := y
    refine ⟨Ex.refl _, fun G eg e2 => ?_⟩
    obtain ⟨d, hd, hr⟩ := r.getV (y xs (.inl (.inl (e _ _ h))))
    exact ⟨d, hd, hr.mono (eg.trans (Ex.grow e2 (Ex.refl _)))⟩
def rngD (lo : Int) (n : Nat) : List D := (List.range n).map fun k => .int (lo + (k : Nat))
theorem rngD_len (lo : Int) (n : Nat) : (rngD lo n).length = n := by unfold rngD; rw [List.length_map, List.length_range]
theorem itr_ok {lo : Int} {n : Nat} {Hs1 : Hp} : ItOk K (Itr lo n) Hs1 (rngD lo n) where
  go := fun i H hi e => by rw [rngD_len] at hi; exact hi
  stop := fun H e => by rw [rngD_len]; exact Nat.le_refl _
  yld := fun i H x H' e hi y => by
    obtain ⟨rfl, rfl⟩ := y
    rw [rngD_len] at hi
    exact ⟨Ex.refl _, fun G eg e2 => ⟨.int (lo + i), by unfold rngD; simp [hi], .int _⟩⟩
def rngC (lo c : Int) (n : Nat) : List D := (List.range n).map fun k => .int (lo + (k : Nat) * c)
def enumD (ds : List D) : List D := ds.zipIdx.map fun p => .tup [.int (p.2 : Nat), p.1]
theorem enumD_len (ds : List D) : (enumD ds).length = ds.length := by unfold enumD; simp
theorem ite_ok {a : Addr} {xs : List V} {ds : List D} {Hs1 : Hp} (h : Hs1 a = some (.lst xs)) (r : RpL K true Hs1 xs ds) : ItOk K (Ite K a) Hs1 (enumD ds) where
  go := fun i H hi e => by
    rw [enumD_len] at hi
    have hi' : i < xs.length := by rw [r.length]; exact hi
    exact ⟨xs, xs[i], .inl (.inl (e _ _ h)), by simp [hi']⟩
  stop := fun H e => ⟨xs, .inl (.inl (e _ _ h)), by rw [enumD_len, r.length]; exact Nat.le_refl _⟩
  yld := fun i H x H' e hi y => by
    obtain ⟨T, z, rfl, hT, rfl, y⟩ := y
    refine ⟨Ex.new hT, fun G eg e2 => ?_⟩
    obtain ⟨d, hd, hr⟩ := r.getV (y xs (.inl (.inl (e _ _ h))))
    refine ⟨.tup [.int (i : Nat), d], by unfold enumD; simp [hd], newT_rp e2 hT (.cons (.int _) (.cons (hr.mono eg) .nil))⟩
def zipD (as bs : List D) : List D := (as.zip bs).map fun p => .tup [p.1, p.2]
def strD (z : Str) : List D := z.cps.toList.map fun c => .str ⟨#[c]⟩
theorem its_ok {z : Str} {Hs1 : Hp} : ItOk K (Its z) Hs1 (strD z) where
  go := fun i H hi e => by unfold strD at hi; rw [List.length_map, Array.length_toList] at hi; exact hi
  stop := fun H e => by unfold strD; rw [List.length_map, Array.length_toList]; exact Nat.le_refl _
  yld := fun i H x H' e hi y => by
    obtain ⟨rfl, c, hc, rfl⟩ := y
    exact ⟨Ex.refl _, fun G eg e2 => ⟨.str ⟨#[c]⟩, by unfold strD; simp [hc], .str _⟩⟩
end
def asL : D → Option (List D)
  | .lst ds => some ds
  | _ => none
def asT : D → Option (List D)
  | .tup ds => some ds
  | _ => none
def asStr : D → Option (List D)
  | .str z => some (strD z)
  | _ => none
def iL (f : M D) : M (List D) := bnd f fun d => lift (asL d)
def iT (f : M D) : M (List D) := bnd f fun d => lift (asT d)
def iS (f : M D) : M (List D) := bnd f fun d => lift (asStr d)
def smallI (i : Int) : Bool := decide (-(2 ^ 62) ≤ i ∧ i < 2 ^ 62)
def gR1 : List D → Option (List D)
  | [.int j] => if smallI j then some (rngD 0 j.toNat) else none
  | _ => none
def gR2 : List D → Option (List D)
  | [.int i, .int j] => if smallI i && smallI j then some (rngD i (j - i).toNat) else none
  | _ => none
def gEn : List D → Option (List D)
  | [.lst ds] => some (enumD ds)
  | _ => none
def gZp : List D → Option (List D)
  | [.lst as, .lst bs] => some (zipD as bs)
  | _ => none
def iN (g : List D → Option (List D)) (a : M (List D)) : M (List D) := bnd a fun x => lift (g x)
section
variable {X : Cx} {cf : Cf} {W : WX} {c : Cls} {n : Bool} {tg : Expr}
theorem SdI.mk {wi : TI} {fi : M (List D)} (h1 : ∀ R Hs env σ H F wf, Rel cf R Hs env σ H F wf → ∀ ds env', fi env = .ok ds env' → ∀ Rk : It → Hp → Prop, (∀ J Hs' H', Stp cf wf env Hs H env' Hs' H' → Rel cf R Hs' env' σ H' F wf → ItOk cf.K J Hs' ds → Rk J H') → wi σ H Rk)
    (h2 : ∀ R Hs env σ H F wf, Rel cf R Hs env σ H F wf → ∀ x env', fi env = .ex x env' → ∀ Rk : It → Hp → Prop, (∀ Hs' H', Stp cf wf env Hs H env' Hs' H' → Rel cf R Hs' env' σ H' F wf → W (cf.cv x) none σ H') → wi σ H Rk) : SdI cf W wi fi := by
  intro R Hs env σ H F wf r Q
  cases q : fi env with
  | ok d env' => exact h1 R Hs env σ H F wf r d env' q Q
  | ex x env' => exact h2 R Hs env σ H F wf r x env' q Q
  | stuck => trivial
theorem asL_some {d : D} {ds : List D} (h : asL d = some ds) : d = .lst ds := by
  unfold asL at h; split at h <;> cases h; rfl
theorem si_list {e : Expr} {te : TE} {f : M D} (hK : cf.K = X.K) (h : SE X cf W .S n e te f) : SI X cf W tg e (iList cf.K te) (iL f) := by
  rw [hK]
  obtain ⟨p, s⟩ := h
  refine ⟨pi_list p, SdI.mk (fun R Hs env σ H F wf r ds env' q Rk k => ?_) (fun R Hs env σ H F wf r x env' q Rk k => ?_)⟩
  · obtain ⟨d1, env1, q1, q⟩ := bnd_ok q
    obtain ⟨qg, rfl⟩ := lift_ok q
    cases asL_some qg
    refine s.ok r q1 fun v Hs1 H1 s1 r1 p1 _ => ?_
    obtain ⟨a, xs, rfl, h1, h2⟩ := p1.lst_inv
    exact ⟨a, rfl, ⟨xs, .inl (.inl (r1.exs _ _ h1))⟩, k _ Hs1 H1 s1 r1 (by rw [← hK]; exact itl_ok h1 h2)⟩
  · rcases bnd_ex q with q | ⟨d1, env1, q1, q⟩
    · exact s.exn r q k
    · exact (lift_ex q).elim
theorem si_str {e : Expr} {te : TE} {f : M D} (h : SE X cf W c n e te f) : SI X cf W tg e (iStr te) (iS f) := by
  obtain ⟨p, s⟩ := h
  refine ⟨pi_str p, SdI.mk (fun R Hs env σ H F wf r ds env' q Rk k => ?_) (fun R Hs env σ H F wf r x env' q Rk k => ?_)⟩
  · obtain ⟨d1, env1, q1, q⟩ := bnd_ok q
    obtain ⟨qg, rfl⟩ := lift_ok q
    unfold asStr at qg
    split at qg
    · cases qg
      refine s.ok r q1 fun v Hs1 H1 s1 r1 p1 _ => ?_
      exact ⟨_, p1.str_inv, k _ Hs1 H1 s1 r1 its_ok⟩
    · cases qg
  · rcases bnd_ex q with q | ⟨d1, env1, q1, q⟩
    · exact s.exn r q k
    · exact (lift_ex q).elim
theorem smallI_of {i : Int} (h : smallI i = true) : -(2 ^ 62) ≤ i ∧ i < 2 ^ 62 := of_decide_eq_true h
theorem si_range1 {a : Expr} {ta : TA} {fa : M (List D)} {p pos : Pos} (hg : Gl X "range") (hm : X.mg "range" = none) (ha : SA X cf W c [a] ta fa) (hs : starEach [a] X.env = [(false, eval a X.env)] := by rfl) : SI X cf W tg (.Call (.Name "range" p) [a] [] pos) (iRng1 ta) (iN gR1 fa) := by
  obtain ⟨q, s⟩ := ha
  refine ⟨pi_range1 hg hm q hs, SdI.mk (fun R Hs env σ H F wf r ds env' q Rk k => ?_) (fun R Hs env σ H F wf r x env' q Rk k => ?_)⟩
  · obtain ⟨d1, env1, q1, q⟩ := bnd_ok q
    obtain ⟨qg, rfl⟩ := lift_ok q
    unfold gR1 at qg
    split at qg
    · split at qg
      · rename_i hb
        cases qg
        refine s.ok r q1 fun v Hs1 H1 s1 r1 p1 => ?_
        obtain ⟨w, rfl, hw⟩ := p1.one
        exact ⟨_, by rw [hw.int_inv], (smallI_of hb).1, (smallI_of hb).2, k _ Hs1 H1 s1 r1 itr_ok⟩
      · cases qg
    · cases qg
  · rcases bnd_ex q with q | ⟨d1, env1, q1, q⟩
    · exact s.exn r q k
    · exact (lift_ex q).elim
theorem si_enum {e : Expr} {ta : TA} {fa : M (List D)} {p pos tpos : Pos} {elts : List Expr} {kk : Nat} (hK : cf.K = X.K) (hg : Gl X "enumerate") (hm : X.mg "enumerate" = none) (ha : SA X cf W .S [e] ta fa) (hs : starEach [e] X.env = [(false, eval e X.env)] := by rfl) : SI X cf W (.Tuple elts kk tpos) (.Call (.Name "enumerate" p) [e] [] pos) (iEnum cf.K ta) (iN gEn fa) := by
  rw [hK]
  obtain ⟨q, s⟩ := ha
  refine ⟨pi_enum hg hm q hs, SdI.mk (fun R Hs env σ H F wf r ds env' q Rk k => ?_) (fun R Hs env σ H F wf r x env' q Rk k => ?_)⟩
  · obtain ⟨d1, env1, q1, q⟩ := bnd_ok q
    obtain ⟨qg, rfl⟩ := lift_ok q
    unfold gEn at qg
    split at qg
    · cases qg
      refine s.ok r q1 fun v Hs1 H1 s1 r1 p1 => ?_
      obtain ⟨w, rfl, hw⟩ := p1.one
      obtain ⟨a, xs, rfl, h1, h2⟩ := hw.lst_inv
      exact ⟨a, xs, rfl, .inl (.inl (r1.exs _ _ h1)), k _ Hs1 H1 s1 r1 (by rw [← hK]; exact ite_ok h1 h2)⟩
    · cases qg
  · rcases bnd_ex q with q | ⟨d1, env1, q1, q⟩
    · exact s.exn r q k
    · exact (lift_ex q).elim
def tgN (i : Nat) : D → M Unit := fun d e => .ok () (e.set i (some d))
def setAll : List Nat → List D → PEnv → Option PEnv
  | [], [], e => some e
  | i :: is, d :: ds, e => setAll is ds (e.set i (some d))
  | _, _, _ => none
def tgT (is : List Nat) : D → M Unit := fun d e => match d with
  | .tup ds => match setAll is ds e with
    | some e' => .ok () e'
    | none => .stuck
  | _ => .stuck
def SdG (cf : Cf) (is : List Nat) (g : TG) (tg : D → M Unit) : Prop :=
  ∀ (R : Rs) (Hs : Hp) (env : PEnv) (σ : L2.St) (H : Hp) (F : Nat → List Addr) (wf : List Addr), Rel cf R Hs env σ H F wf → ∀ (d : D) (v : V), Rp cf.K true Hs v d → ∀ Q : L2.St → Hp → Prop,
    match tg d env with
    | .ok _ env' => (∀ σ', Rel cf R Hs env' σ' H F wf → wipe σ' is = wipe σ is → (∀ j, j ∉ is → env'[j]? = env[j]?) → Q σ' H) → g v σ H Q
    | .ex _ _ => False
    | .stuck => True
structure SGt (X : Cx) (cf : Cf) (is : List Nat) (tg : Expr) (g : TG) (f : D → M Unit) : Prop where
  p : PG X tg g
  s : SdG cf is g f
theorem wipe_set (σ : L2.St) (i : Nat) (x : Option V) : ∀ is : List Nat, i ∈ is → wipe (σ.set i x) is = wipe σ is
  | [], h => by cases h
  | j :: is, h => by
    unfold wipe
    by_cases e : i ∈ is
    · rw [wipe_set σ i x is e]
    · have : i = j := (List.mem_cons.mp h).resolve_right e
      subst this
      have hh : ∀ is : List Nat, i ∉ is → wipe (σ.set i x) is = (wipe σ is).set i x := by
        intro is
        induction is with
        | nil => intro _; rfl
        | cons k is ih =>
          intro hn
          unfold wipe
          rw [ih (fun m => hn (List.mem_cons_of_mem _ m)), List.set_comm _ _ (fun e => hn (by rw [e]; exact List.mem_cons_self))]
      rw [hh is e, List.set_set]
theorem sgt_name {i : Nat} {x : Str} {pos : Pos} {is : List Nat} (hm : i ∈ is) (hk : cf.kd i = .S) (hN : X.N.Nodup) (hi : X.N[i]? = some x) (hx : Loc X.env.scope x) (hf : X.fn x = true ∨ X.env.scope.names.lookup x = some .local := by first | exact .inl rfl | exact .inr rfl | assumption) : SGt X cf is (.Name x pos) (gName i) (tgN i) :=
  ⟨pg_name hN hi hx hf, fun R Hs env σ H F wf r d v p Q k => k _ (r.put (by rw [hk]; exact fun z => by cases z) fun F' => by rw [hk]; exact p) (wipe_set σ i _ is hm) fun j hj => List.getElem?_set_ne (fun e => hj (by rw [← e]; exact hm))⟩
def SdGs (cf : Cf) (is js : List Nat) (g : TGs) : Prop :=
  ∀ (R : Rs) (Hs : Hp) (env : PEnv) (σ : L2.St) (H : Hp) (F : Nat → List Addr) (wf : List Addr), Rel cf R Hs env σ H F wf → ∀ (ds : List D) (vs : List V), RpL cf.K true Hs vs ds → ∀ Q : L2.St → Hp → Prop, ∀ env', setAll js ds env = some env' →
    (∀ σ', Rel cf R Hs env' σ' H F wf → wipe σ' is = wipe σ is → (∀ j, j ∉ is → env'[j]? = env[j]?) → Q σ' H) → g vs σ H Q
structure SGts (X : Cx) (cf : Cf) (is js : List Nat) (ts : List Expr) (g : TGs) : Prop where
  p : PGs X ts g
  s : SdGs cf is js g
theorem sgts_nil {is : List Nat} : SGts X cf is [] [] gNil := ⟨pgs_nil, fun R Hs env σ H F wf r ds vs p Q env' q k => by
  cases p with
  | nil => rw [setAll] at q; cases q; exact ⟨rfl, k σ r rfl fun _ _ => rfl⟩
  | cons _ _ => rw [setAll] at q <;> first | cases q | (intros; rintro ⟨⟩)⟩
theorem sgts_cons {is js : List Nat} {i : Nat} {x : Str} {pos : Pos} {es : List Expr} {g : TGs} (hm : i ∈ is) (hk : cf.kd i = .S) (hN : X.N.Nodup) (hi : X.N[i]? = some x) (hx : Loc X.env.scope x) (h2 : SGts X cf is js es g) (hf : X.fn x = true ∨ X.env.scope.names.lookup x = some .local := by first | exact .inl rfl | exact .inr rfl | assumption)
    (hs : (assignEach (.Name x pos :: es) X.env).map (·.2) = assign (.Name x pos) X.env :: (assignEach es X.env).map (·.2) := by rfl) : SGts X cf is (i :: js) (.Name x pos :: es) (gCons (gName i) g) := by
  obtain ⟨p, s⟩ := h2
  refine ⟨pgs_cons (pg_name hN hi hx hf) p hs, fun R Hs env σ H F wf r ds vs p Q env' q k => ?_⟩
  cases p with
  | nil => rw [setAll] at q <;> first | cases q | (intros; rintro ⟨⟩)
  | cons h1 h2 =>
    rw [setAll] at q
    refine ⟨_, _, rfl, ?_⟩
    refine s R Hs _ _ H F wf (r.put (by rw [hk]; exact fun z => by cases z) fun F' => by rw [hk]; exact h1) _ _ h2 Q env' q fun σ' r' w' kj => ?_
    exact k σ' r' (w'.trans (wipe_set σ i _ is hm)) fun j hj => (kj j hj).trans (List.getElem?_set_ne (fun e => hj (by rw [← e]; exact hm)))
theorem sgt_tup {is js : List Nat} {es : List Expr} {g : TGs} {k : Nat} {pos : Pos} (hK : cf.K = X.K) (hc : X.calm = true) (h : SGts X cf is js es g) (hl : es.length = js.length)
    (hn : (assignEach es X.env).length = js.length := by rfl) (hst : (assignEach es X.env).findIdx? (·.1) = none := by rfl) : SGt X cf is (.Tuple es k pos) (gTup cf.K js.length g) (tgT js) := by
  rw [hK]
  obtain ⟨p, s⟩ := h
  refine ⟨pg_tup hc p hn hst, fun R Hs env σ H F wf r d v p Q => ?_⟩
  cases d with
  | tup ds =>
    cases q : setAll js ds env with
    | none =>
      have e1 : tgT js (.tup ds) env = .stuck := by simp only [tgT, q]
      rw [e1]; trivial
    | some env' =>
      have e1 : tgT js (.tup ds) env = .ok () env' := by simp only [tgT, q]
      rw [e1]
      intro kk
      obtain ⟨a, xs, rfl, h1, h2⟩ := p.tup_inv
      have hlen : ∀ (js : List Nat) (ds : List D) (e e' : PEnv), setAll js ds e = some e' → ds.length = js.length := by
        intro js
        induction js with
        | nil => intro ds e e' q; cases ds with
          | nil => rfl
          | cons _ _ => rw [setAll] at q <;> first | cases q | (intros; rintro ⟨⟩)
        | cons j js ih => intro ds e e' q; cases ds with
          | nil => rw [setAll] at q <;> first | cases q | (intros; rintro ⟨⟩)
          | cons d ds => rw [setAll] at q; rw [List.length_cons, List.length_cons, ih ds _ _ q]
      refine ⟨a, xs, rfl, .inl (.inl (r.exs _ _ h1)), by rw [h2.length, hlen js ds env env' q], ?_⟩
      exact s R Hs env σ H F wf r ds xs h2 Q env' q kk
  | _ => unfold tgT; trivial
def sForL (tg : D → M Unit) (b : M Fl) : List D → M Fl
  | [] => ret .nx
  | d :: r => bnd (tg d) fun _ => bnd b (sAft (sForL tg b r))
def sFor (fi : M (List D)) (tg : D → M Unit) (b : M Fl) : M Fl := bnd fi fun ds => sForL tg b ds
theorem ss_for {iter : Expr} {body : List Stmt} {wi : TI} {g : TG} {fi : M (List D)} {is : List Nat} {ft : D → M Unit} {fb : M Fl} {pos : Pos} (hp : PassesOwn (model X.prog X.w) X.A X.env X.xe) (hc : X.calm = true) (hi : SI X cf W tg iter wi fi) (hg : SGt X cf is tg g ft) (hb : SSs X cf W body fb)
    (hs : ∀ x, foldedSetIterable iter X.env x = pure x := by intro _; rfl) : SS X cf W (.For tg iter body [] pos) (sFor fi ft fb) := by
  obtain ⟨pi, si⟩ := hi
  obtain ⟨pg, sg⟩ := hg
  obtain ⟨tb, pb, sb⟩ := hb
  refine ⟨_, ps_for hp hc pi pg pb hs, fun R Hs env σ H F wf r D hp => ?_⟩
  have h := si R Hs env σ H F wf r
  unfold sFor bnd at hp
  cases q : fi env with
  | stuck => rw [q] at hp; exact hp.elim
  | ex x env1 =>
    rw [q] at hp
    have h := h fun J H1 => ∃ W : Nat → Nat → L2.St → Hp → Prop, (∃ m, W 0 m σ H1) ∧ ∀ i m σ H, W i m σ H → (J.stop i H ∧ D.nx σ H) ∨ (J.go i H ∧ ∃ N : L2.St → Hp → Prop, (∀ σ' H', N σ' H' → ∃ m', m' < m ∧ W (i + 1) m' σ' H') ∧ ∀ x H', J.yld i H x H' → g x σ H' fun σ2 H2 => tb { D with nx := N, ct := N, bk := D.nx } σ2 H2)
    rw [q] at h
    exact h fun Hs1 H1 s1 r1 => hp Hs1 σ H1 F wf s1.ex r1
  | ok ds env1 =>
    rw [q] at hp
    have h := h fun J H1 => ∃ W : Nat → Nat → L2.St → Hp → Prop, (∃ m, W 0 m σ H1) ∧ ∀ i m σ H, W i m σ H → (J.stop i H ∧ D.nx σ H) ∨ (J.go i H ∧ ∃ N : L2.St → Hp → Prop, (∀ σ' H', N σ' H' → ∃ m', m' < m ∧ W (i + 1) m' σ' H') ∧ ∀ x H', J.yld i H x H' → g x σ H' fun σ2 H2 => tb { D with nx := N, ct := N, bk := D.nx } σ2 H2)
    rw [q] at h
    refine h fun J Hs1 H1 s1 r1 it => ?_
    refine ⟨fun i m σ H => ∃ Hs2 env2 F2 wf2, Ex Hs1 Hs2 ∧ Rel cf R Hs2 env2 σ H F2 wf2 ∧ i ≤ ds.length ∧ m = ds.length - i ∧ Post cf W R Hs2 D (sForL ft fb (ds.drop i) env2),
      ⟨ds.length, Hs1, env1, F, wf, Ex.refl _, r1, Nat.zero_le _, by simp, by rw [List.drop_zero]; exact Post.mono s1.ex hp⟩, ?_⟩
    rintro i m σ H ⟨Hs2, env2, F2, wf2, e2, r2, hi, rfl, hp⟩
    by_cases hlt : i < ds.length
    · refine .inr ⟨it.go i H hlt (e2.trans r2.exs), fun σ' H' => ∃ Hs3 env3 F3 wf3, Ex Hs1 Hs3 ∧ Rel cf R Hs3 env3 σ' H' F3 wf3 ∧ Post cf W R Hs3 D (sForL ft fb (ds.drop (i + 1)) env3), fun σ' H' hN => ?_, fun x H' y => ?_⟩
      · obtain ⟨Hs3, env3, F3, wf3, e3, r3, hp3⟩ := hN
        exact ⟨ds.length - (i + 1), by omega, Hs3, env3, F3, wf3, e3, r3, hlt, rfl, hp3⟩
      · obtain ⟨eg, hy⟩ := it.yld i H x H' (e2.trans r2.exs) hlt y
        obtain ⟨d, hd, hr⟩ := hy Hs2 e2 r2.exs
        have ed : ds.drop i = d :: ds.drop (i + 1) := by
          rw [List.drop_eq_getElem_cons hlt]
          rw [List.getElem?_eq_getElem hlt] at hd
          cases hd
          rfl
        rw [ed, sForL] at hp
        have r3 := r2.grow eg
        have e3 : Ex Hs2 (grow Hs2 H H') := Ex.grow r2.exs eg
        have hg := sg R _ env2 σ H' F2 wf2 r3 d x hr fun σ2 H2 => tb { D with nx := fun σ' H' => ∃ Hs3 env3 F3 wf3, Ex Hs1 Hs3 ∧ Rel cf R Hs3 env3 σ' H' F3 wf3 ∧ Post cf W R Hs3 D (sForL ft fb (ds.drop (i + 1)) env3), ct := fun σ' H' => ∃ Hs3 env3 F3 wf3, Ex Hs1 Hs3 ∧ Rel cf R Hs3 env3 σ' H' F3 wf3 ∧ Post cf W R Hs3 D (sForL ft fb (ds.drop (i + 1)) env3), bk := D.nx } σ2 H2
        cases qt : ft d env2 with
        | stuck =>
          rw [bnd_of_stuck qt] at hp; exact hp.elim
        | ex x env3 => rw [qt] at hg; exact hg.elim
        | ok u env3 =>
          rw [bnd_of_ok qt] at hp
          rw [qt] at hg
          refine hg fun σ2 r4 _ _ => ?_
          refine sb R _ env3 σ2 H' F2 wf2 r4 _ ?_
          have hp : Post cf W R _ D (bnd fb (sAft (sForL ft fb (ds.drop (i + 1)))) env3) := Post.mono e3 hp
          unfold bnd at hp
          cases qb : fb env3 with
          | ok f env4 =>
            rw [qb] at hp
            cases f with
            | nx => exact fun Hs' σ' H' F' wf' e r' => ⟨Hs', env4, F', wf', (e2.trans e3).trans e, r', Post.mono e hp⟩
            | ct => exact fun Hs' σ' H' F' wf' e r' => ⟨Hs', env4, F', wf', (e2.trans e3).trans e, r', Post.mono e hp⟩
            | bk => exact fun Hs' σ' H' F' wf' e r' => hp Hs' σ' H' F' wf' e r'
            | rt d => exact hp
          | ex x env4 => rw [qb] at hp; exact hp
          | stuck => rw [qb] at hp; exact hp
    · have e : i = ds.length := by omega
      subst e
      rw [List.drop_length] at hp
      exact .inl ⟨it.stop H (e2.trans r2.exs), hp Hs2 σ H F2 wf2 (Ex.refl _) r2⟩
end
end MV
namespace MV
open PySem L2
abbrev W0 : WX := fun _ _ _ _ => False
def wipeE : List Nat → PEnv → PEnv
  | [], e => e
  | v :: vs, e => (wipeE vs e).set v none
def restE : List Nat → PEnv → PEnv → PEnv
  | [], _, e1 => e1
  | v :: vs, e, e1 => (restE vs e e1).set v ((e[v]?).getD none)
theorem wipeE_len : ∀ (is : List Nat) (e : PEnv), (wipeE is e).length = e.length
  | [], _ => rfl
  | v :: vs, e => by unfold wipeE; rw [List.length_set, wipeE_len vs e]
theorem restE_len : ∀ (is : List Nat) (e e1 : PEnv), (restE is e e1).length = e1.length
  | [], _, _ => rfl
  | v :: vs, e, e1 => by unfold restE; rw [List.length_set, restE_len vs e e1]
theorem wipeE_get {is : List Nat} {e : PEnv} {j : Nat} {d : D} (h : (wipeE is e)[j]? = some (some d)) : e[j]? = some (some d) ∧ j ∉ is := by
  induction is with
  | nil => exact ⟨h, by simp⟩
  | cons v vs ih =>
    unfold wipeE at h
    rcases get_set h with ⟨_, z, _⟩ | ⟨ne, h⟩
    · cases z
    · obtain ⟨h1, h2⟩ := ih h
      exact ⟨h1, fun m => (List.mem_cons.mp m).elim (fun z => ne z.symm) h2⟩
theorem wipeE_out {is : List Nat} {e : PEnv} {j : Nat} (h : j ∉ is) : (wipeE is e)[j]? = e[j]? := by
  induction is with
  | nil => rfl
  | cons v vs ih =>
    unfold wipeE
    rw [List.getElem?_set_ne (fun z => h (by rw [z]; exact List.mem_cons_self)), ih fun m => h (List.mem_cons_of_mem _ m)]
theorem restE_out {is : List Nat} {e e1 : PEnv} {j : Nat} (h : j ∉ is) : (restE is e e1)[j]? = e1[j]? := by
  induction is with
  | nil => rfl
  | cons v vs ih =>
    unfold restE
    rw [List.getElem?_set_ne (fun z => h (by rw [z]; exact List.mem_cons_self)), ih fun m => h (List.mem_cons_of_mem _ m)]
theorem restE_in {is : List Nat} {e e1 : PEnv} {j : Nat} (h : j ∈ is) (hl : e.length = e1.length) : (restE is e e1)[j]? = e[j]? := by
  induction is with
  | nil => cases h
  | cons v vs ih =>
    unfold restE
    by_cases z : v = j
    · subst z
      by_cases hv : v < e.length
      · rw [List.getElem?_set_self (by rw [restE_len]; omega), List.getElem?_eq_getElem hv]; rfl
      · rw [List.getElem?_eq_none (by rw [List.length_set, restE_len]; omega), List.getElem?_eq_none (by omega)]
    · rw [List.getElem?_set_ne z]
      exact ih ((List.mem_cons.mp h).resolve_left fun q => z q.symm)
def lcGo (is : List Nat) (tg : D → M Unit) (tt : M Bool) (fe : M D) : List D → List D → M (List D)
  | [], acc => ret acc
  | d :: r, acc => bnd (tg d) fun _ => bnd tt fun k =>
      if k then bnd fe fun y => bnd (lift (if acc.length < LIM then some () else none)) fun _ => fun e => lcGo is tg tt fe r (acc ++ [y]) (wipeE is e)
      else fun e => lcGo is tg tt fe r acc (wipeE is e)
def eLc (is : List Nat) (fi : M (List D)) (tg : D → M Unit) (tt : M Bool) (fe : M D) : M D := bnd fi fun ds => fun e => match lcGo is tg tt fe ds [] (wipeE is e) with
  | .ok acc e1 => .ok (.lst acc) (restE is e e1)
  | _ => .stuck
def tTrue : M Bool := ret true
structure ItOkW (K : PySem.W.Frag) (J : It) (G1 Hs1 : Hp) (ds : List D) : Prop where
  go : ∀ i H, i < ds.length → Ex G1 H → J.go i H
  stop : ∀ H, Ex G1 H → J.stop ds.length H
  yld : ∀ i H x H', Ex G1 H → i < ds.length → J.yld i H x H' → Ex H H' ∧ ∀ G, Ex Hs1 G → Ex G H → ∃ d, ds[i]? = some d ∧ Rp K true (grow G H H') x d
theorem ItOk.w {K : PySem.W.Frag} {J : It} {Hs1 : Hp} {ds : List D} (h : ItOk K J Hs1 ds) : ItOkW K J Hs1 Hs1 ds := ⟨h.go, h.stop, h.yld⟩
def SdIB (cf : Cf) (W : WX) (wi : TI) (fi : M (List D)) : Prop :=
  ∀ (R : Rs) (Hs : Hp) (env : PEnv) (σ : L2.St) (H : Hp) (F : Nat → List Addr) (wf : List Addr), Rel cf R Hs env σ H F wf → ∀ Rk : It → Hp → Prop,
    match fi env with
    | .ok ds env' => (∀ J G1 Hs' H', Stp cf wf env Hs H env' Hs' H' → Rel cf R Hs' env' σ H' F wf → Ex G1 (rm H' wf) → ItOkW cf.K J G1 Hs' ds → Rk J H') → wi σ H Rk
    | .ex x env' => (∀ Hs' H', Stp cf wf env Hs H env' Hs' H' → Rel cf R Hs' env' σ H' F wf → W (cf.cv x) none σ H') → wi σ H Rk
    | .stuck => True
structure SIB (X : Cx) (cf : Cf) (W : WX) (tg iter : Expr) (wi : TI) (fi : M (List D)) : Prop where
  p : PI X tg iter wi
  s : SdIB cf W wi fi
section
variable {X : Cx} {cf : Cf} {W : WX} {c : Cls} {n n1 : Bool}
theorem SdI.w {wi : TI} {fi : M (List D)} (h : SdI cf W wi fi) : SdIB cf W wi fi := fun R Hs env σ H F wf r Rk => by
  have h := h R Hs env σ H F wf r Rk
  cases q : fi env with
  | ok ds env' => rw [q] at h; exact fun k => h fun J Hs' H' s r' it => k J Hs' Hs' H' s r' (rg_le (c := .S) (c' := .B) .sb (H0 := R.H0) (Hst := H) r'.exs r.dom0 fun a m => (r'.wdom a m).2) it.w
  | ex x env' => rw [q] at h; exact h
  | stuck => trivial
theorem SI.w {tg iter : Expr} {wi : TI} {fi : M (List D)} (h : SI X cf W tg iter wi fi) : SIB X cf W tg iter wi fi := ⟨h.p, h.s.w⟩
def asLs : D → Option (List D)
  | .lst ds => if ds.all D.sc then some ds else none
  | _ => none
def iLs (f : M D) : M (List D) := bnd f fun d => lift (asLs d)
theorem Rel.bump {R : Rs} {Hs : Hp} {env : PEnv} {σ : L2.St} {H : Hp} {F : Nat → List Addr} {wf : List Addr} {p : Addr} {o : HO} (r : Rel cf R Hs env σ H F wf) (hs : Hs p = none) (hF : ∀ i, p ∉ F i) : Rel cf R Hs env σ (upd H p o) F wf where
  len := r.len
  exs := fun a u h => by rw [upd_ne (fun e => by subst e; rw [hs] at h; cases h)]; exact r.exs a u h
  ex0 := r.ex0
  dom0 := fun a h => by
    by_cases e : a = p
    · subst e; rw [upd_same]; exact fun z => by cases z
    · rw [upd_ne e]; exact r.dom0 a h
  slot := fun j d h => by
    obtain ⟨w, h1, h2⟩ := r.slot j d h
    refine ⟨w, h1, ?_⟩
    have np : ∀ a ∈ F j, ∀ u, H a = some u → upd H p o a = some u := fun a m u h => by
      rw [upd_ne (fun e => by subst e; exact hF j m)]; exact h
    cases q : cf.kd j with
    | S => rw [q] at h2; exact h2
    | N => rw [q] at h2; exact h2
    | Q => rw [q] at h2; exact h2
    | P => rw [q] at h2; exact Own.keep (Ex.refl _) h2 np
    | M => rw [q] at h2; exact ⟨Own.keep (Ex.refl _) h2.1 np, h2.2⟩
    | W =>
      rw [q] at h2
      obtain ⟨p2, xs, ds, e1, e2, e3, e4, e5⟩ := h2
      exact ⟨p2, xs, ds, e1, e2, e3, np p2 (by rw [e3]; exact List.mem_singleton.mpr rfl) _ e4, e5⟩
  nod := r.nod
  dis := r.dis
  fdom := fun j a h => by
    by_cases e : a = p
    · subst e; rw [upd_same]; exact fun z => by cases z
    · rw [upd_ne e]; exact r.fdom j a h
  uns := r.uns
  new := r.new
  volw := r.volw
  volb := r.volb
  wdom := fun a h => by
    obtain ⟨h1, h2⟩ := r.wdom a h
    refine ⟨?_, h2⟩
    by_cases e : a = p
    · subst e; rw [upd_same]; exact fun z => by cases z
    · rw [upd_ne e]; exact h1
  ior := r.ior
theorem Rel.share {R : Rs} {Hs : Hp} {env : PEnv} {σ : L2.St} {H : Hp} {F : Nat → List Addr} {wf : List Addr} {p : Addr} {o : HO} (r : Rel cf R Hs env σ H F wf) (hs : Hs p = none) (hH : H p = some o) (hF : ∀ i, p ∉ F i) (hw : p ∉ wf) : Rel cf R (upd Hs p o) env σ H F wf where
  len := r.len
  exs := fun a u h => by
    by_cases e : a = p
    · subst e; rw [upd_same] at h; cases h; exact hH
    · rw [upd_ne e] at h; exact r.exs a u h
  ex0 := fun a u h n => Ex.new hs a u (r.ex0 a u h n)
  dom0 := r.dom0
  slot := fun j d h => by
    obtain ⟨w, h1, h2⟩ := r.slot j d h
    refine ⟨w, h1, ?_⟩
    cases q : cf.kd j with
    | S => rw [q] at h2; exact Rp.mono (Ex.new hs) h2
    | N => rw [q] at h2; exact Rp.mono (rs_mono (Ex.new hs)) h2
    | Q => rw [q] at h2; exact Rp.mono (Ex.new hs) h2
    | P => rw [q] at h2; exact Own.mono (th_mono (rs_mono (Ex.new hs))) (Ex.refl _) h2
    | M => rw [q] at h2; exact ⟨Own.mono (rs_mono (Ex.new hs)) (Ex.refl _) h2.1, h2.2⟩
    | W => rw [q] at h2; exact h2
  nod := r.nod
  dis := r.dis
  fdom := r.fdom
  uns := fun j a h => by rw [upd_ne (fun e => by subst e; exact hF j h)]; exact r.uns j a h
  new := r.new
  volw := r.volw
  volb := r.volb
  wdom := fun a h => ⟨(r.wdom a h).1, by rw [upd_ne (fun e => by subst e; exact hw h)]; exact (r.wdom a h).2⟩
  ior := r.ior
theorem Rel.wipe {R : Rs} {Hs : Hp} {env : PEnv} {σ σ' : L2.St} {H : Hp} {F : Nat → List Addr} {wf : List Addr} {is : List Nat} (r : Rel cf R Hs env σ H F wf) (hk : ∀ i ∈ is, cf.kd i = .S) (hw : L2.wipe σ is = L2.wipe σ' is) : Rel cf R Hs (wipeE is env) (L2.wipe σ' is) H F wf where
  len := by rw [wipeE_len, ← hw, wipe_length]; exact r.len
  exs := r.exs
  ex0 := r.ex0
  dom0 := r.dom0
  slot := fun j d h => by
    obtain ⟨h1, h2⟩ := wipeE_get h
    obtain ⟨v, h3, h4⟩ := r.slot j d h1
    exact ⟨v, by rw [← hw, wipe_out h2]; exact h3, h4⟩
  nod := r.nod
  dis := r.dis
  fdom := r.fdom
  uns := r.uns
  new := r.new
  volw := r.volw
  volb := r.volb
  wdom := r.wdom
  ior := fun p h => by
    obtain ⟨h1, h2, h3, d, h4⟩ := r.ior p h
    have n0 : 0 ∉ is := fun m => by rw [hk 0 m] at h3; cases h3
    exact ⟨by rw [← hw, wipe_out n0]; exact h1, h2, h3, d, by rw [wipeE_out n0]; exact h4⟩
theorem Rel.rest {R : Rs} {Hs0 Hs : Hp} {env0 env : PEnv} {σ : L2.St} {H0 H : Hp} {F : Nat → List Addr} {wf : List Addr} {is : List Nat} (r0 : Rel cf R Hs0 env0 σ H0 F wf) (r : Rel cf R Hs env (L2.wipe σ is) H F wf) (ex : Ex Hs0 Hs) (hk : ∀ i ∈ is, cf.kd i = .S) : Rel cf R Hs (restE is env0 env) σ H F wf where
  len := by rw [restE_len]; have := r.len; rw [wipe_length] at this; exact this
  exs := r.exs
  ex0 := r.ex0
  dom0 := r.dom0
  slot := fun j d h => by
    by_cases m : j ∈ is
    · rw [restE_in m (by have := r.len; rw [wipe_length] at this; rw [this, r0.len])] at h
      obtain ⟨v, h1, h2⟩ := r0.slot j d h
      rw [hk j m] at h2 ⊢
      exact ⟨v, h1, Rp.mono ex h2⟩
    · rw [restE_out m] at h
      obtain ⟨v, h1, h2⟩ := r.slot j d h
      exact ⟨v, (wipe_some h1).1, h2⟩
  nod := r.nod
  dis := r.dis
  fdom := r.fdom
  uns := r.uns
  new := r.new
  volw := r.volw
  volb := r.volb
  wdom := r.wdom
  ior := fun p h => by
    obtain ⟨h1, h2, h3, d, h4⟩ := r.ior p h
    have n0 : 0 ∉ is := fun m => by rw [hk 0 m] at h3; cases h3
    exact ⟨(wipe_some h1).1, h2, h3, d, by rw [restE_out n0]; exact h4⟩
def Cls.sh : Cls → Bool
  | .L => false
  | .B => false
  | _ => true
theorem rg_sh {c : Cls} (h : c.sh = true) {H0 Hs Hst H H' : Hp} {wf wf' : List Addr} : rg c H0 Hs Hst H wf = rg c H0 Hs Hst H' wf' := by
  cases c <;> first | rfl | cases h
theorem rg_shm {c : Cls} (h : c.sh = true) {H0 Hs Hs' Hst H H' : Hp} {wf wf' : List Addr} (e : Ex Hs Hs') : Ex (rg c H0 Hs Hst H wf) (rg c H0 Hs' Hst H' wf') := by
  cases c with
  | V => exact rs_mono e
  | N => exact rs_mono e
  | S => exact e
  | L => cases h
  | B => cases h
theorem sdt_true : SdT cf W tYes tTrue := fun R Hs env σ H F wf r Q k => k Hs H Stp.refl r
theorem sd_lc {wi : TI} {g : TG} {tt : TT} {te : TE} {is : List Nat} {fi : M (List D)} {tg : D → M Unit} {ft : M Bool} {fe : M D} (hc : c.sh = true) (hk : ∀ i ∈ is, cf.kd i = .S) (si : SdIB cf W wi fi) (sg : SdG cf is g tg) (st : SdT cf W0 tt ft) (se : Sd cf W0 c n1 te fe) : Sd cf W c true (tLc wi g tt te is) (eLc is fi tg ft fe) := by
  refine Sd.mk (fun R Hs env σ H F wf r d env' q Q k => ?_) (fun R Hs env σ H F wf r x env' q Q k => ?_)
  · obtain ⟨ds, env1, q1, q⟩ := bnd_ok q
    have h := si R Hs env σ H F wf r
    refine (show ∀ Rk : It → Hp → Prop, (∀ J G1 Hs' H', Stp cf wf env Hs H env1 Hs' H' → Rel cf R Hs' env1 σ H' F wf → Ex G1 (rm H' wf) → ItOkW cf.K J G1 Hs' ds → Rk J H') → wi σ H Rk from fun Rk kk => by
      have h := h Rk
      rw [q1] at h
      exact h kk) _ fun J G1 Hs1 H1 s1 r1 hG it => ?_
    intro Dp hD
    cases q2 : lcGo is tg ft fe ds [] (wipeE is env1) with
    | stuck => simp only [q2] at q; cases q
    | ex x e2 => simp only [q2] at q; cases q
    | ok acc e2 =>
    simp only [q2] at q
    cases q
    have rw0 : Rel cf R Hs1 (wipeE is env1) (L2.wipe σ is) H1 F wf := r1.wipe hk rfl
    have dF : ∀ i, Dp ∉ F i := fun i m => r1.fdom i Dp m hD
    have dW : Dp ∉ wf := fun m => (r1.wdom Dp m).1 hD
    have dS : Hs1 Dp = none := r1.exs.back hD
    have dst : H Dp = none := by
      cases z : H Dp with
      | none => rfl
      | some o => exact absurd hD (s1.dom Dp (by rw [z]; exact fun y => by cases y))
    refine ⟨fun i m H' => ∃ Hs2 env2 accV acc2, i ≤ ds.length ∧ m = ds.length - i ∧ Stp cf wf (wipeE is env1) Hs1 H1 env2 Hs2 H' ∧ Rel cf R Hs2 env2 (L2.wipe σ is) H' F wf ∧ H' Dp = some (.lst accV) ∧ Hs2 Dp = none ∧ RpL cf.K true (rg c R.H0 Hs2 H H1 wf) accV acc2 ∧ lcGo is tg ft fe (ds.drop i) acc2 env2 = .ok acc e2,
      ⟨ds.length, Hs1, wipeE is env1, [], [], Nat.zero_le _, by simp, ⟨fun a h => (Ex.new hD).dom h, Ex.refl _, fun a o _ h => Ex.new hD a o h, fun _ _ => rfl, fun _ _ => rfl⟩, rw0.bump dS dF, upd_same, dS, .nil, by rw [List.drop_zero]; exact q2⟩, ?_⟩
    rintro i m H' ⟨Hs2, env2, accV, acc2, hi, rfl, s2, r2, hD2, hS2, ra, q3⟩
    have e12 : Ex G1 H' := fun a o h => by
      have h := hG a o h
      unfold rm at h
      split at h
      · cases h
      · rename_i hw; exact s2.keep a o hw h
    by_cases hlt : i < ds.length
    · refine .inr ⟨it.go i H' hlt e12, fun H'' => ∃ Hs2 env2 accV acc2, Stp cf wf (wipeE is env1) Hs1 H1 env2 Hs2 H'' ∧ Rel cf R Hs2 env2 (L2.wipe σ is) H'' F wf ∧ H'' Dp = some (.lst accV) ∧ Hs2 Dp = none ∧ RpL cf.K true (rg c R.H0 Hs2 H H1 wf) accV acc2 ∧ lcGo is tg ft fe (ds.drop (i + 1)) acc2 env2 = .ok acc e2, fun H'' hN => ?_, fun x H3 y => ?_⟩
      · obtain ⟨Hs3, env3, accV3, acc3, z⟩ := hN
        exact ⟨ds.length - (i + 1), by omega, Hs3, env3, accV3, acc3, hlt, rfl, z⟩
      · obtain ⟨eg, hy⟩ := it.yld i H' x H3 e12 hlt y
        obtain ⟨d, hd, hr⟩ := hy Hs2 s2.ex r2.exs
        have ed : ds.drop i = d :: ds.drop (i + 1) := by
          rw [List.drop_eq_getElem_cons hlt]
          rw [List.getElem?_eq_getElem hlt] at hd
          cases hd
          rfl
        rw [ed, lcGo] at q3
        obtain ⟨u, env3, qt, q4⟩ := bnd_ok q3
        obtain ⟨b, env4, qb, q5⟩ := bnd_ok q4
        have r3 := r2.grow eg
        have s3 : Stp cf wf env2 Hs2 H' env2 (grow Hs2 H' H3) H3 := Stp.grow r2.exs eg
        have hD3 : H3 Dp = some (.lst accV) := eg _ _ hD2
        have hS3 : grow Hs2 H' H3 Dp = none := by rw [grow_some hD2]; exact hS2
        have hg := sg R _ env2 (L2.wipe σ is) H3 F wf r3 d x hr
        refine (show ∀ Q : L2.St → Hp → Prop, (∀ σ', Rel cf R (grow Hs2 H' H3) env3 σ' H3 F wf → L2.wipe σ' is = L2.wipe (L2.wipe σ is) is → (∀ j, j ∉ is → env3[j]? = env2[j]?) → Q σ' H3) → g x (L2.wipe σ is) H3 Q from fun Q kk => by
          have hg := hg Q
          rw [qt] at hg
          exact hg kk) _ fun σ2 r4 w4 kj => ?_
        have ww : L2.wipe (L2.wipe σ is) is = L2.wipe σ is := by
          have : ∀ (js : List Nat), (∀ j ∈ js, j ∈ is) → L2.wipe (L2.wipe σ is) js = L2.wipe σ is := by
            intro js
            induction js with
            | nil => intro _; rfl
            | cons v vs ih =>
              intro hj
              show (L2.wipe (L2.wipe σ is) vs).set v none = L2.wipe σ is
              rw [ih fun j m => hj j (List.mem_cons_of_mem _ m)]
              apply List.ext_getElem?
              intro j
              by_cases e : v = j
              · subst e
                by_cases hl : v < (L2.wipe σ is).length
                · rw [List.getElem?_set_self hl]
                  cases z : (L2.wipe σ is)[v]? with
                  | none => rw [List.getElem?_eq_getElem hl] at z; cases z
                  | some o =>
                    cases o with
                    | none => rfl
                    | some w => exact absurd (hj v List.mem_cons_self) (wipe_some z).2
                · rw [List.getElem?_eq_none (by rw [List.length_set]; omega), List.getElem?_eq_none (by omega)]
              · rw [List.getElem?_set_ne e]
          exact this is fun _ m => m
        rw [ww] at w4
        refine ⟨w4, ?_⟩
        have kp4 : ∀ j, cf.kd j ≠ .W → j ∉ is → env3[j]? = (wipeE is env1)[j]? := fun j hj hn => (kj j hn).trans (s2.kp j hj)
        refine st.ok r4 qb fun Hs5 H5 s5 r5 => ?_
        have hD5 : H5 Dp = some (.lst accV) := s5.keep _ _ dW hD3
        have hS5 : Hs5 Dp = none := by rw [s5.same Dp (by rw [hD3]; exact fun z => by cases z)]; exact hS3
        -- what holds behind a turn
        have fin : ∀ (Hs6 H6 : Hp) (env6 : PEnv) (accV6 : List V) (acc6 : List D), Stp cf wf env4 Hs5 H5 env6 Hs6 H6 → Rel cf R Hs6 env6 σ2 H6 F wf → RpL cf.K true (rg c R.H0 Hs6 H H1 wf) accV6 acc6 → lcGo is tg ft fe (ds.drop (i + 1)) acc6 (wipeE is env6) = .ok acc e2 → ∀ H7, (H7 = H6 ∧ accV6 = accV ∨ H7 = upd H6 Dp (.lst accV6)) →
            ∃ Hs2 env2 accV acc2, Stp cf wf (wipeE is env1) Hs1 H1 env2 Hs2 H7 ∧ Rel cf R Hs2 env2 (L2.wipe σ is) H7 F wf ∧ H7 Dp = some (.lst accV) ∧ Hs2 Dp = none ∧ RpL cf.K true (rg c R.H0 Hs2 H H1 wf) accV acc2 ∧ lcGo is tg ft fe (ds.drop (i + 1)) acc2 env2 = .ok acc e2 := by
          intro Hs6 H6 env6 accV6 acc6 s6 r6 ra6 q6 H7 h7
          have hD6 : H6 Dp = some (.lst accV) := s6.keep _ _ dW hD5
          have hS6 : Hs6 Dp = none := by rw [s6.same Dp (by rw [hD5]; exact fun z => by cases z)]; exact hS5
          have r6w : Rel cf R Hs6 (wipeE is env6) (L2.wipe σ is) H6 F wf := r6.wipe hk w4
          have kpw : ∀ j, cf.kd j ≠ .W → (wipeE is env6)[j]? = (wipeE is env1)[j]? := fun j hj => by
            by_cases m : j ∈ is
            · have hl : (wipeE is env6).length = (wipeE is env1).length := by rw [r6w.len, rw0.len]
              cases z : (wipeE is env6)[j]? with
              | none => rw [List.getElem?_eq_none_iff] at z; rw [List.getElem?_eq_none (by omega)]
              | some o =>
                cases o with
                | some w => exact absurd m (wipeE_get z).2
                | none =>
                  cases z2 : (wipeE is env1)[j]? with
                  | none => rw [List.getElem?_eq_none_iff] at z2; rw [List.getElem?_eq_none (by omega)] at z; cases z
                  | some o2 =>
                    cases o2 with
                    | some w => exact absurd m (wipeE_get z2).2
                    | none => rfl
            · rw [wipeE_out m, s6.kp j hj, s5.kp j hj, kp4 j hj m]
          have keep6 : ∀ a o, a ∉ wf → H1 a = some o → H6 a = some o := fun a o hw h => s6.keep a o hw (s5.keep a o hw (s3.keep a o hw (s2.keep a o hw h)))
          have dom6 : ∀ a, H1 a ≠ none → H6 a ≠ none := fun a h => s6.dom a (s5.dom a (s3.dom a (s2.dom a h)))
          have ex6 : Ex Hs1 Hs6 := ((s2.ex.trans s3.ex).trans s5.ex).trans s6.ex
          have same6 : ∀ a, H1 a ≠ none → Hs6 a = Hs1 a := fun a h => ((s6.same a (s5.dom a (s3.dom a (s2.dom a h)))).trans (s5.same a (s3.dom a (s2.dom a h)))).trans ((s3.same a (s2.dom a h)).trans (s2.same a h))
          rcases h7 with ⟨rfl, rfl⟩ | rfl
          · exact ⟨Hs6, wipeE is env6, accV6, acc6, ⟨dom6, ex6, keep6, same6, kpw⟩, r6w, hD6, hS6, ra6, q6⟩
          · refine ⟨Hs6, wipeE is env6, accV6, acc6, ⟨fun a h => ?_, ex6, fun a o hw h => ?_, same6, kpw⟩, r6w.bump hS6 dF, upd_same, hS6, ra6, q6⟩
            · have : a ≠ Dp := fun e => by subst e; exact h hD
              rw [upd_ne this]; exact dom6 a h
            · have : a ≠ Dp := fun e => by subst e; rw [hD] at h; cases h
              rw [upd_ne this]; exact keep6 a o hw h
        have ra5 : RpL cf.K true (rg c R.H0 Hs5 H H1 wf) accV acc2 := ra.mono (rg_shm hc (s3.ex.trans s5.ex))
        cases b with
        | false => exact fin Hs5 H5 env4 accV acc2 Stp.refl r5 ra5 q5 H5 (.inl ⟨rfl, rfl⟩)
        | true =>
          obtain ⟨y6, env6, qe, q6⟩ := bnd_ok q5
          obtain ⟨u2, env7, ql, q7⟩ := bnd_ok q6
          obtain ⟨ql, rfl⟩ := lift_ok ql
          split at ql
          · rename_i hl
            refine se.ok r5 qe fun v6 Hs6 H6 s6 r6 p6 _ => ?_
            refine ⟨accV, s6.keep _ _ dW hD5, by rw [ra.length]; exact lim_lt hl, ?_⟩
            have dd : ∀ a, H a ≠ none → H5 a ≠ none := fun a h => s5.dom a (s3.dom a (s2.dom a (s1.dom a h)))
            have p6' : Rp cf.K true (rg c R.H0 Hs6 H H1 wf) v6 y6 := by
              have := p6.mono (rg_start dd)
              rw [rg_sh hc (H' := H1) (wf' := wf)] at this
              exact this
            exact fin Hs6 H6 env7 (accV ++ [v6]) (acc2 ++ [y6]) s6 r6 ((ra5.mono (rg_shm hc s6.ex)).append (.cons p6' .nil)) q7 _ (.inr rfl)
          · cases ql
    · have e : i = ds.length := by omega
      subst e
      rw [List.drop_length, lcGo] at q3
      cases q3
      refine .inl ⟨it.stop H' e12, ?_⟩
      have exn : Ex Hs2 (upd Hs2 Dp (.lst accV)) := Ex.new hS2
      have r6 : Rel cf R (upd Hs2 Dp (.lst accV)) e2 (L2.wipe σ is) H' F wf := r2.share hS2 hD2 dF dW
      have r7 : Rel cf R (upd Hs2 Dp (.lst accV)) (restE is env1 e2) σ H' F wf := Rel.rest r1 r6 (s2.ex.trans exn) hk
      have hroot : rg c R.H0 (upd Hs2 Dp (.lst accV)) H H1 wf Dp = some (.lst accV) := by
        have h0 : R.H0 Dp = none := by
          cases z : R.H0 Dp with
          | none => rfl
          | some o => exact absurd hD (r1.dom0 Dp (by rw [z]; exact fun y => by cases y))
        cases c with
        | V => show rs _ _ Dp = _; rw [rs_none dst, upd_same]
        | N => show rs _ _ Dp = _; rw [rs_none h0, upd_same]
        | S => exact upd_same
        | L => cases hc
        | B => cases hc
      refine k (.ref Dp) (upd Hs2 Dp (.lst accV)) H' ⟨fun a h => s2.dom a (s1.dom a h), (s1.ex.trans s2.ex).trans exn, fun a o hw h => s2.keep a o hw (s1.keep a o hw h), fun a h => ?_, fun j hj => ?_⟩ r7 ?_ ?_
      · rw [upd_ne (fun e => by subst e; exact h dst), s2.same a (s1.dom a h), s1.same a h]
      · by_cases m : j ∈ is
        · rw [restE_in m (by have := r6.len; rw [wipe_length] at this; rw [this, r1.len])]; exact s1.kp j hj
        · rw [restE_out m, s2.kp j hj, wipeE_out m]; exact s1.kp j hj
      · rw [rg_sh hc (H' := H1) (wf' := wf)]
        exact .lst hroot (ra.mono (rg_shm hc exn))
      · intro _ hf
        refine .lst (show rs (upd Hs2 Dp (.lst accV)) H Dp = _ by rw [rs_none dst, upd_same]) (ra.sc_any hf _ _)
  · rcases bnd_ex q with q | ⟨ds, env1, q1, q⟩
    · have h := si R Hs env σ H F wf r
      have h := h fun J H1 => ∀ D, H1 D = none → ∃ W : Nat → Nat → Hp → Prop, (∃ m, W 0 m (upd H1 D (.lst []))) ∧ ∀ i m H, W i m H → (J.stop i H ∧ Q (.ref D) H) ∨ (J.go i H ∧ ∃ Nx : Hp → Prop, (∀ H', Nx H' → ∃ m', m' < m ∧ W (i + 1) m' H') ∧ ∀ x H', J.yld i H x H' → g x (L2.wipe σ is) H' fun σ2 H2 => L2.wipe σ2 is = L2.wipe σ is ∧ tt σ2 H2 fun b H3 => if b = true then te σ2 H3 fun y H4 => ∃ acc, H4 D = some (.lst acc) ∧ acc.length < sizeLine ∧ Nx (upd H4 D (.lst (acc ++ [y]))) else Nx H3)
      rw [q] at h
      exact h k
    · split at q <;> cases q
end
end MV
namespace MV
open PySem PySem.Spec PyProof.Rows L2
section
variable {X : Cx} {cf : Cf} {W : WX} {c : Cls} {n n1 n2 : Bool}
structure STs (X : Cx) (cf : Cf) (W : WX) (es : List Expr) (t : TT) (f : M Bool) : Prop where
  p : PTs X es t
  s : SdT cf W t f
theorem sts_nil : STs X cf W [] tYes tTrue := ⟨pts_nil, sdt_true⟩
theorem sts_one {e : Expr} {t : TT} {f : M Bool} (h : ST X cf W e t f) : STs X cf W [e] t f := ⟨pts_one h.p, h.s⟩
theorem se_lc {elt tg iter : Expr} {ifs : List Expr} {scope : Scope} {own : List (Str × Nat)} {pos : Pos} {wi : TI} {g : TG} {tt : TT} {te : TE} {fi : M (List D)} {ftg : D → M Unit} {ft : M Bool} {fe : M D} (hsh : c.sh = true) (hk : ∀ i ∈ own.map (·.2), cf.kd i = .S) (hc : X.calm = true) (hN : X.N.Nodup) (hi : SIB X cf W tg iter wi fi) (ok : BlkOk X.N X.env.scope scope own)
    (hg : ∀ (s : Shared) (H : Hp) (C : Addr) (cl : List (Str × Addr)) (fp : List Addr), SGt (X.blk s H scope (compEnvC scope cl C X.env) fp) cf (own.map (·.2)) tg g ftg) (ht : ∀ (s : Shared) (H : Hp) (C : Addr) (cl : List (Str × Addr)) (fp : List Addr), STs (X.blk s H scope (compEnvC scope cl C X.env) fp) cf W0 ifs tt ft)
    (he : ∀ (s : Shared) (H : Hp) (C : Addr) (cl : List (Str × Addr)) (fp : List Addr), SE (X.blk s H scope (compEnvC scope cl C X.env) fp) cf W0 c n1 elt te fe) (hs : ∀ x, foldedSetIterable iter X.env x = pure x := by intro _; rfl) :
    SE X cf W c true (.ListComp elt [⟨tg, iter, ifs, 0⟩] scope pos) (tLc wi g tt te (own.map (·.2))) (eLc (own.map (·.2)) fi ftg ft fe) :=
  ⟨pe_lc hc hN hi.p ok (fun s H C cl fp => (hg s H C cl fp).p) (fun s H C cl fp => (ht s H C cl fp).p) (fun s H C cl fp => (he s H C cl fp).p) hs,
   sd_lc hsh hk hi.s (hg X.s_0 X.H_0 0 [] []).s (ht X.s_0 X.H_0 0 [] []).s (he X.s_0 X.H_0 0 [] []).s⟩
theorem sg_lc {i : Nat} {y : Str} {py : Pos} {elt tg iter : Expr} {ifs : List Expr} {scope : Scope} {own : List (Str × Nat)} {pos spos : Pos} {wi : TI} {g : TG} {tt : TT} {te : TE} {fi : M (List D)} {ftg : D → M Unit} {ft : M Bool} {fe : M D} (hsh : c.sh = true) (hk : ∀ i ∈ own.map (·.2), cf.kd i = .S) (hc : X.calm = true) (hN : X.N.Nodup) (hy : X.N[i]? = some y) (hyl : X.env.scope.names.lookup y = some .local)
    (hsw : swapsWith (.ListComp elt [⟨tg, iter, ifs, 0⟩] scope pos) (some (.Name y py)) spos.line X.env = pure true) (hi : SIB X cf W tg iter wi fi) (ok : BlkOk X.N X.env.scope scope own)
    (hg : ∀ (s : Shared) (H : Hp) (C : Addr) (cl : List (Str × Addr)) (fp : List Addr), SGt (X.blk s H scope (compEnvC scope cl C X.env) fp) cf (own.map (·.2)) tg g ftg) (ht : ∀ (s : Shared) (H : Hp) (C : Addr) (cl : List (Str × Addr)) (fp : List Addr), STs (X.blk s H scope (compEnvC scope cl C X.env) fp) cf W0 ifs tt ft)
    (he : ∀ (s : Shared) (H : Hp) (C : Addr) (cl : List (Str × Addr)) (fp : List Addr), SE (X.blk s H scope (compEnvC scope cl C X.env) fp) cf W0 c n1 elt te fe) (hs : ∀ x, foldedSetIterable iter X.env x = pure x := by intro _; rfl) :
    SG X cf W c true i (.Assign [.Name y py] (.ListComp elt [⟨tg, iter, ifs, 0⟩] scope pos) spos) (eLc (own.map (·.2)) fi ftg ft fe) :=
  ⟨_, ps_setLc hc hN hy hyl hsw hi.p ok (fun s H C cl fp => (hg s H C cl fp).p) (fun s H C cl fp => (ht s H C cl fp).p) (fun s H C cl fp => (he s H C cl fp).p) hs,
   sd_lc hsh hk hi.s (hg X.s_0 X.H_0 0 [] []).s (ht X.s_0 X.H_0 0 [] []).s (he X.s_0 X.H_0 0 [] []).s⟩
theorem SG.flat {i : Nat} {st : Stmt} {f : M D} (h : SG X cf W c true i st f) : SG X cf W .V true i st (eF f) := by
  obtain ⟨t, p, s⟩ := h
  refine ⟨t, p, fun R Hs env σ H F wf r Q => ?_⟩
  have h := s R Hs env σ H F wf r Q
  cases q : f env with
  | ok d env' =>
    rw [q] at h
    cases hf : d.flat with
    | true =>
      have e1 : eF f env = .ok d env' := by simp [eF, bnd, lift, q, hf]
      rw [e1]
      exact fun k => h fun v Hs' H' st r' p nr => k v Hs' H' st r' (nr rfl hf) nr
    | false =>
      have e1 : eF f env = .stuck := by simp [eF, bnd, lift, q, hf]
      rw [e1]
      trivial
  | ex x env' =>
    rw [q] at h
    have e1 : eF f env = .ex x env' := by simp [eF, bnd, q]
    rw [e1]
    exact h
  | stuck =>
    have e1 : eF f env = .stuck := by simp [eF, bnd, q]
    rw [e1]
    trivial
def lstAt (i : Nat) (e : PEnv) : Option (List D) := match e[i]? with
  | some (some (.lst ds)) => some ds
  | _ => none
theorem lstAt_some {i : Nat} {e : PEnv} {ds : List D} (h : lstAt i e = some ds) : e[i]? = some (some (.lst ds)) := by
  unfold lstAt at h
  split at h
  · rename_i q; cases h; exact q
  · cases h
def sApp (i : Nat) (f : M D) : M Fl := fun e => match lstAt i e with
  | none => .stuck
  | some _ => bnd f (fun d => fun e => match lstAt i e with
    | some ds => if ds.length < LIM then .ok .nx (e.set i (some (.lst (ds ++ [d])))) else .stuck
    | none => .stuck) e
def sPut (i : Nat) (fv fi : M D) : M Fl := bnd fv fun d => fun e => match lstAt i e with
  | none => .stuck
  | some _ => bnd fi (fun k => fun e => match lstAt i e, k with
    | some ds, .int z => match ixN ds.length z with
      | some j => .ok .nx (e.set i (some (.lst (ds.set j d))))
      | none => .stuck
    | _, _ => .stuck) e
def sPutW (i : Nat) (fv fi : M D) : M Fl := bnd fv fun d => fun e => match lstAt i e with
  | none => .stuck
  | some _ => bnd fi (fun k => fun e => match lstAt i e, k with
    | some ds, .int z => match ixN ds.length z with
      | some j => if d.sc then .ok .nx (e.set i (some (.lst (ds.set j d)))) else .stuck
      | none => .stuck
    | _, _ => .stuck) e
theorem own_list {R : Rs} {Hs : Hp} {env : PEnv} {σ : L2.St} {H : Hp} {F : Nat → List Addr} {wf : List Addr} {i : Nat} {ds : List D} (r : Rel cf R Hs env σ H F wf) (hk : cf.kd i = .M) (h : env[i]? = some (some (.lst ds))) : ∃ p xs, σ[i]? = some (some (.ref p)) ∧ F i = [p] ∧ H p = some (.lst xs) ∧ RpL cf.K true (rs Hs R.H0) xs ds := by
  obtain ⟨v, h1, h2⟩ := r.slot i _ h
  rw [hk] at h2
  obtain ⟨h2, h3, h4⟩ := h2
  generalize hF : F i = L at h2 h3 h4
  cases h2 with
  | leaf _ => cases h3 rfl
  | lst h5 h6 =>
    rename_i F' _
    have e : F' = [] := by
      rw [List.length_cons] at h4
      exact List.length_eq_zero_iff.mp (by omega)
    subst e
    exact ⟨_, _, h1, rfl, h5, h6.leafs rfl⟩
theorem own_listW {R : Rs} {Hs : Hp} {env : PEnv} {σ : L2.St} {H : Hp} {F : Nat → List Addr} {wf : List Addr} {i : Nat} {d : D} (r : Rel cf R Hs env σ H F wf) (hk : cf.kd i = .W) (h : env[i]? = some (some d)) : ∃ p xs ds, d = .lst ds ∧ σ[i]? = some (some (.ref p)) ∧ F i = [p] ∧ H p = some (.lst xs) ∧ ds.all D.sc = true ∧ RpL cf.K true emp xs ds := by
  obtain ⟨v, h1, h2⟩ := r.slot i _ h
  rw [hk] at h2
  obtain ⟨p, xs, ds, e1, e2, e3, e4, e5, e6⟩ := h2
  subst e1
  exact ⟨p, xs, ds, e2, h1, e3, e4, e5, e6⟩
theorem OwnL.app {K : PySem.W.Frag} {Hn H : Hp} : ∀ {F : List Addr} {xs ys : List V} {ds es : List D}, OwnL K Hn H F xs ds → RpL K true Hn ys es → OwnL K Hn H F (xs ++ ys) (ds ++ es)
  | _, _, _, _, _, .nil, h => ownL_of h
  | _, _, _, _, _, .cons h r, h2 => OwnL.cons h (OwnL.app r h2)
theorem OwnL.off {K : PySem.W.Frag} {Hn H : Hp} {p : Addr} {o : HO} {F : List Addr} {xs : List V} {ds : List D} (h : OwnL K Hn H F xs ds) (hp : p ∉ F) : OwnL K Hn (upd H p o) F xs ds := h.keep (Ex.refl _) fun a m u e => by
  rw [upd_ne (fun z => hp (by rw [← z]; exact m))]; exact e
theorem OwnL.length {K : PySem.W.Frag} {Hn H : Hp} : ∀ {F : List Addr} {xs : List V} {ds : List D}, OwnL K Hn H F xs ds → xs.length = ds.length
  | _, _, _, .nil => rfl
  | _, _, _, .cons _ r => by rw [List.length_cons, List.length_cons, OwnL.length r]
theorem ss_app {i : Nat} {o e : Expr} {te : TE} {f : M D} {apos cpos pos : Pos} (hK : cf.K = X.K) (po : PE X o (tVar i)) (hk : cf.kd i = .M) (h : SE X cf W .N n e te f)
    (hbase : attributeBase o "append" X.env (eval o X.env) = eval o X.env := by rfl)
    (hfew : ((backTo cpos (starEach [e] X.env)).all (fun x => !x.1) && (backToKw cpos (keywordEach [] X.env)).all (fun x => x.1.isSome) && decide ([e].length + ([] : List Keyword).length + (if ([] : List Keyword).isEmpty then 0 else 1) < 30)) = true := by rfl)
    (hline : (apos.endLine == cpos.line) = true := by rfl) (hs : starEach [e] X.env = (false, eval e X.env) :: starEach [] X.env := by rfl) (hplain : (backTo cpos (starEach [] X.env)).any (·.1) = false := by rfl)
    (hsw : swapsWith (.Call (.Attribute o "append" apos) [e] [] cpos) none pos.line X.env = pure false := by rfl) :
    SS X cf W (.Expr (.Call (.Attribute o "append" apos) [e] [] cpos) pos) (sApp i f) := by
  refine ⟨_, ps_expr (pe_bm PySem.F.plainAttrs_list PySem.F.slot_list_append PySem.F.type_list_append mt_append po (pa_cons h.p pa_nil hs) hbase hfew hline hs hplain) hsw, fun R Hs env σ H F wf r D hp => ?_⟩
  unfold sApp at hp
  cases q0 : lstAt i env with
  | none => simp only [q0] at hp; exact hp.elim
  | some ds0 =>
    simp only [q0] at hp
    obtain ⟨p0, xs0, a1, a2, a3, a4⟩ := own_list r hk (lstAt_some q0)
    refine ⟨.ref p0, a1, .inl ⟨rfl, xs0, .inl (.inl a3)⟩, ?_⟩
    refine h.s.bind r hp fun d env1 v Hs1 H1 s1 r1 p1 _ hp => ?_
    cases q : lstAt i env1 with
    | none => simp only [q] at hp; exact hp.elim
    | some ds =>
      simp only [q] at hp
      split at hp
      · rename_i hl
        obtain ⟨p, xs, h1, h2, h3, h4⟩ := own_list r1 hk (lstAt_some q)
        have ep : p = p0 := by rw [h1] at a1; cases a1; rfl
        subst ep
        refine ⟨p, xs, v, rfl, rfl, h3, by rw [h4.length]; exact lim_lt hl, ?_⟩
        exact hp Hs1 σ _ F wf s1.ex (r1.mut (i := i) (p := p) (v := .ref p) (d0 := .lst ds) (by rw [h2]; exact List.mem_cons_self) (lstAt_some q) h1 (by
            rw [hk, h2]
            exact ⟨Own.lst upd_same (ownL_of (h4.append (.cons p1 .nil))), fun z => (by cases z), Nat.le_refl _⟩))
      · exact hp.elim
theorem ss_putM {i : Nat} {o ix e : Expr} {te ti : TE} {f fi : M D} {spos pos : Pos} (po : PE X o (tVar i)) (hk : cf.kd i = .M) (h : SE X cf W .N n e te f) (hi : SE X cf W c n1 ix ti fi)
    (ha : ∀ v, assign (.Subscript o ix spos) X.env v = (do
      let ov ← holding [v] (eval o X.env)
      let iv ← holding [v, ov] (eval ix X.env)
      standAt spos
      holding [v, ov, iv] (setItem ov iv v)
      release [v, ov, iv] []) := by intro _; rfl)
    (hs : swapsWithSole [.Subscript o ix spos] e pos.line X.env = pure false := by rfl) (hw : swappedStores [.Subscript o ix spos] e X.env = pure none := by rfl)
    (h1 : (assignEach [.Subscript o ix spos] X.env).map (·.2) = [assign (.Subscript o ix spos) X.env] := by rfl) :
    SS X cf W (.Assign [.Subscript o ix spos] e pos) (sPut i f fi) := by
  refine ⟨_, ps_asg h.p (pg_sub po hi.p set_list ha) hs hw h1, fun R Hs env σ H F wf r D hp => ?_⟩
  refine h.s.bind r hp fun d env1 v Hs1 H1 s1 r1 p1 _ hp => ?_
  cases q0 : lstAt i env1 with
  | none => simp only [q0] at hp; exact hp.elim
  | some ds0 =>
    simp only [q0] at hp
    obtain ⟨p0, xs0, a1, a2, a3, a4⟩ := own_list r1 hk (lstAt_some q0)
    refine ⟨.ref p0, a1, ?_⟩
    refine hi.s.bind r1 (Post.mono s1.ex hp) fun k env2 vk Hs2 H2 s2 r2 p2 _ hp => ?_
    cases q : lstAt i env2 with
    | none => simp only [q] at hp; exact hp.elim
    | some ds =>
      simp only [q] at hp
      cases k with
      | int z =>
        simp only at hp
        cases qj : ixN ds.length z with
        | none => simp only [qj] at hp; exact hp.elim
        | some j =>
          simp only [qj] at hp
          obtain ⟨p, xs, h1, h2, h3, h4⟩ := own_list r2 hk (lstAt_some q)
          have ep : p = p0 := by rw [h1] at a1; cases a1; rfl
          subst ep
          refine ⟨p, xs, z, j, rfl, p2.int_inv, h3, by rw [h4.length]; exact qj, ?_⟩
          exact hp Hs2 σ _ F wf s2.ex (r2.mut (i := i) (p := p) (v := .ref p) (d0 := .lst ds) (by rw [h2]; exact List.mem_cons_self) (lstAt_some q) h1 (by
              rw [hk, h2]
              exact ⟨Own.lst upd_same (ownL_of (h4.set j (p1.mono (rs_mono s2.ex)))), fun z => (by cases z), Nat.le_refl _⟩))
      | _ => exact hp.elim
theorem ss_putW {i : Nat} {o ix e : Expr} {te ti : TE} {f fi : M D} {spos pos : Pos} (po : PE X o (tVar i)) (hk : cf.kd i = .W) (h : SE X cf W c n e te f) (hi : SE X cf W c n1 ix ti fi)
    (ha : ∀ v, assign (.Subscript o ix spos) X.env v = (do
      let ov ← holding [v] (eval o X.env)
      let iv ← holding [v, ov] (eval ix X.env)
      standAt spos
      holding [v, ov, iv] (setItem ov iv v)
      release [v, ov, iv] []) := by intro _; rfl)
    (hs : swapsWithSole [.Subscript o ix spos] e pos.line X.env = pure false := by rfl) (hw : swappedStores [.Subscript o ix spos] e X.env = pure none := by rfl)
    (h1 : (assignEach [.Subscript o ix spos] X.env).map (·.2) = [assign (.Subscript o ix spos) X.env] := by rfl) :
    SS X cf W (.Assign [.Subscript o ix spos] e pos) (sPutW i f fi) := by
  refine ⟨_, ps_asg h.p (pg_sub po hi.p set_list ha) hs hw h1, fun R Hs env σ H F wf r D hp => ?_⟩
  refine h.s.bind r hp fun d env1 v Hs1 H1 s1 r1 p1 _ hp => ?_
  cases q0 : lstAt i env1 with
  | none => simp only [q0] at hp; exact hp.elim
  | some ds0 =>
    simp only [q0] at hp
    obtain ⟨p0, xs0, dz, _, a1, a2, a3, a4, a5⟩ := own_listW r1 hk (lstAt_some q0)
    refine ⟨.ref p0, a1, ?_⟩
    refine hi.s.bind r1 (Post.mono s1.ex hp) fun k env2 vk Hs2 H2 s2 r2 p2 _ hp => ?_
    cases q : lstAt i env2 with
    | none => simp only [q] at hp; exact hp.elim
    | some ds =>
      simp only [q] at hp
      cases k with
      | int z =>
        simp only at hp
        cases qj : ixN ds.length z with
        | none => simp only [qj] at hp; exact hp.elim
        | some j =>
          simp only [qj] at hp
          split at hp
          · rename_i hsc
            obtain ⟨p, xs, ds', e1, h1, h2, h3, h4, h5⟩ := own_listW r2 hk (lstAt_some q)
            cases e1
            have ep : p = p0 := by rw [h1] at a1; cases a1; rfl
            subst ep
            refine ⟨p, xs, z, j, rfl, p2.int_inv, h3, by rw [h5.length]; exact qj, ?_⟩
            exact hp Hs2 σ _ F wf s2.ex (r2.mut (i := i) (p := p) (v := .ref p) (d0 := .lst ds) (by rw [h2]; exact List.mem_cons_self) (lstAt_some q) h1 (by
                rw [hk, h2]
                refine ⟨p, _, _, rfl, rfl, rfl, upd_same, ?_, h5.set j (p1.sc_any hsc _ _)⟩
                rw [List.all_eq_true]
                intro y hy
                rcases List.mem_or_eq_of_mem_set hy with hy | hy
                · exact List.all_eq_true.mp h4 y hy
                · rw [hy]; exact hsc))
          · exact hp.elim
      | _ => exact hp.elim
def eIxW (i : Nat) (f : M D) : M D := fun e => match lstAt i e with
  | none => .stuck
  | some _ => bnd f (fun k => fun e => match lstAt i e, k with
    | some ds, .int z => lift (atI ds z) e
    | _, _ => .stuck) e
theorem atI_mem {α : Type} {l : List α} {i : Int} {x : α} (h : atI l i = some x) : x ∈ l := by
  obtain ⟨j, _, h2, _⟩ := atI_get h
  exact List.mem_of_getElem? h2
theorem se_ixW {i : Nat} {o ix : Expr} {ti : TE} {f : M D} {pos : Pos} (hK : cf.K = X.K) (po : PE X o (tVar i)) (hk : cf.kd i = .W) (h : SE X cf W c n ix ti f) (hs : PlainIx ix) : SE X cf W .V true (.Subscript o ix pos) (tOp (rIx cf.K) (tVar i) ti) (eIxW i f) := by
  rw [hK]
  refine ⟨pe_ix ix_seq po h.p hs, Sd.mk (fun R Hs env σ H F wf r d env' q Q k => ?_) (fun R Hs env σ H F wf r x env' q Q k => ?_)⟩
  · unfold eIxW at q
    cases q0 : lstAt i env with
    | none => simp only [q0] at q; cases q
    | some ds0 =>
      simp only [q0] at q
      obtain ⟨p0, xs0, dz, _, a1, a2, a3, a4, a5⟩ := own_listW r hk (lstAt_some q0)
      refine ⟨.ref p0, a1, ?_⟩
      obtain ⟨kd, env1, q1, q2⟩ := bnd_ok q
      refine h.s.ok r q1 fun v Hs1 H1 s1 r1 p1 _ => ?_
      cases q3 : lstAt i env1 with
      | none => simp only [q3] at q2; cases q2
      | some ds =>
        simp only [q3] at q2
        cases kd with
        | int z =>
          obtain ⟨qg, rfl⟩ := lift_ok q2
          obtain ⟨p, xs, ds', e1, h1, h2, h3, h4, h5⟩ := own_listW r1 hk (lstAt_some q3)
          cases e1
          have ep : p = p0 := by rw [h1] at a1; cases a1; rfl
          subst ep
          obtain ⟨w, hw, hr⟩ := atI_rp h5 qg
          have hsc : d.sc = true := List.all_eq_true.mp h4 d (atI_mem qg)
          exact .inl ⟨p, xs, z, w, rfl, p1.int_inv, .inl (.inl h3), hw, k w Hs1 H1 s1 r1 (hr.sc_any hsc _ _) fun _ _ => hr.sc_any hsc _ _⟩
        | _ => cases q2
  · unfold eIxW at q
    cases q0 : lstAt i env with
    | none => simp only [q0] at q; cases q
    | some ds0 =>
      simp only [q0] at q
      obtain ⟨p0, xs0, dz, _, a1, a2, a3, a4, a5⟩ := own_listW r hk (lstAt_some q0)
      refine ⟨.ref p0, a1, ?_⟩
      rcases bnd_ex q with q | ⟨kd, env1, q1, q2⟩
      · exact h.s.exn r q k
      · cases q3 : lstAt i env1 with
        | none => simp only [q3] at q2; cases q2
        | some ds =>
          simp only [q3] at q2
          cases kd with
          | int z => exact (lift_ex q2).elim
          | _ => cases q2
end
end MV
namespace MV
open PySem PySem.Spec PyProof.Rows L2
def spP (K : PySem.W.Frag) (cv : Str → Value) (m : Nat) (F : List D → FR) : Sp := fun vs H Q E => vs.length = m ∧ ∃ ds, RpL K true H vs ds ∧ match F ds with
  | .ok d _ => ∀ v H', Ex H H' → Rp K true (nw H H') v d → Q v H'
  | .ex x _ => ∀ H', Ex H H' → E (cv x) none H'
  | .stuck => False
def spW (K : PySem.W.Frag) (cv : Str → Value) (m : Nat) (F : List D → FR) : Sp := fun vs H Q E => vs.length = m ∧ ∃ p xs ds0 vs' ds, vs = .ref p :: vs' ∧ H p = some (.lst xs) ∧ ds0.all D.sc = true ∧ RpL K true emp xs ds0 ∧ RpL K true (rm H [p]) vs' ds ∧ match F (.lst ds0 :: ds) with
  | .ok d io => ∀ v H' xs' ds', io = .lst ds' → ds'.all D.sc = true → RpL K true emp xs' ds' → Ex (upd H p (.lst xs')) H' → Rp K true (nw H H') v d → Q v H'
  | .ex x io => ∀ H' xs' ds', io = .lst ds' → ds'.all D.sc = true → RpL K true emp xs' ds' → Ex (upd H p (.lst xs')) H' → E (cv x) none H'
  | .stuck => False
def frD (r : FR) : M D := fun e => match r with
  | .ok d _ => .ok d e
  | .ex x _ => .ex x e
  | .stuck => .stuck
def eCall (F : List D → FR) (a : M (List D)) : M D := bnd a fun ds => frD (F ds)
def frW (i : Nat) (r : FR) : M D := fun e => match r with
  | .ok d io => if wok io then .ok d (e.set i (some io)) else .stuck
  | .ex x io => if wok io then .ex x (e.set i (some io)) else .stuck
  | .stuck => .stuck
def eCallW (F : List D → FR) (i : Nat) (a : M (List D)) : M D := fun e => match lstAt i e with
  | none => .stuck
  | some _ => bnd a (fun ds => fun e => match lstAt i e with
    | some ds0 => frW i (F (.lst ds0 :: ds)) e
    | none => .stuck) e
section
variable {X : Cx} {cf : Cf} {W : WX} {c : Cls} {n n1 n2 : Bool}
theorem nw_rs {Hs H H1 H' : Hp} (d : ∀ a, H a ≠ none → H1 a ≠ none) : Ex (nw H1 H') (rs (grow Hs H1 H') H) := fun a o h => by
  cases q : H1 a with
  | some u => rw [nw_some q] at h; cases h
  | none =>
    rw [nw_none q] at h
    have : H a = none := by
      cases z : H a with
      | none => rfl
      | some u => exact absurd q (d a (by rw [z]; exact fun y => by cases y))
    rw [rs_none this, grow_none q]; exact h
theorem sd_call {F : List D → FR} {m : Nat} {ta : TA} {fa : M (List D)} (h : SdA cf W .B ta fa) (hm : ∀ ds env env', fa env = .ok ds env' → ds.length = m) : Sd cf W .V true (tCallS (spP cf.K cf.cv m F) (WE W) ta) (eCall F fa) := by
  refine Sd.mk (fun R Hs env σ H F0 wf r d env' q Q k => ?_) (fun R Hs env σ H F0 wf r x env' q Q k => ?_)
  · obtain ⟨ds, env1, q1, q2⟩ := bnd_ok q
    refine h.ok r q1 fun vs Hs1 H1 s1 r1 p1 => ?_
    refine ⟨by rw [p1.length]; exact hm _ _ _ q1, ds, p1.mono (rm_sub _ _), ?_⟩
    cases qf : F ds with
    | ok d' io =>
      rw [qf] at q2
      cases q2
      intro v H' x pv
      have pv' : Rp cf.K true (rs (grow Hs1 H1 H') H) v d := pv.mono (nw_rs s1.dom)
      exact k v (grow Hs1 H1 H') H' (s1.trans (Stp.grow r1.exs x)) (r1.grow x) pv' fun _ _ => pv'
    | ex x io => rw [qf] at q2; cases q2
    | stuck => rw [qf] at q2; cases q2
  · rcases bnd_ex q with q | ⟨ds, env1, q1, q2⟩
    · exact h.exn r q k
    · refine h.ok r q1 fun vs Hs1 H1 s1 r1 p1 => ?_
      refine ⟨by rw [p1.length]; exact hm _ _ _ q1, ds, p1.mono (rm_sub _ _), ?_⟩
      cases qf : F ds with
      | ok d' io => rw [qf] at q2; cases q2
      | ex x' io =>
        rw [qf] at q2
        cases q2
        intro H' x
        exact k (grow Hs1 H1 H') H' (s1.trans (Stp.grow r1.exs x)) (r1.grow x)
      | stuck => rw [qf] at q2; cases q2
theorem sd_callW {F : List D → FR} {m i : Nat} {ta : TA} {fa : M (List D)} (hk : cf.kd i = .W) (h : SdA cf W .B ta fa) (hm : ∀ ds env env', fa env = .ok ds env' → ds.length + 1 = m) : Sd cf W .V true (tCallS (spW cf.K cf.cv m F) (WE W) (tCons (tVar i) ta)) (eCallW F i fa) := by
  have args : ∀ {R : Rs} {Hs1 H1 : Hp} {env1 : PEnv} {σ : L2.St} {F0 : Nat → List Addr} {wf : List Addr} {vs : List V} {ds : List D} {p : Addr}, Rel cf R Hs1 env1 σ H1 F0 wf → F0 i = [p] → RpL cf.K true (rm H1 wf) vs ds → RpL cf.K true (rm H1 [p]) vs ds := fun {R Hs1 H1 env1 σ F0 wf vs ds p} r1 e pa => pa.mono fun a o ha => by
    unfold rm at ha ⊢
    split at ha
    · cases ha
    · rename_i hw
      rw [if_neg (fun m => hw (r1.volw i hk a (by rw [e]; exact m)))]
      exact ha
  have after : ∀ {R : Rs} {Hs1 H1 H' : Hp} {env1 : PEnv} {σ : L2.St} {F0 : Nat → List Addr} {wf : List Addr} {p : Addr} {xs' : List V} {ds0 ds' : List D}, Rel cf R Hs1 env1 σ H1 F0 wf → lstAt i env1 = some ds0 → σ[i]? = some (some (.ref p)) → F0 i = [p] → ds'.all D.sc = true → RpL cf.K true emp xs' ds' → Ex (upd H1 p (.lst xs')) H' →
      Stp cf wf env1 Hs1 H1 (env1.set i (some (.lst ds'))) (grow Hs1 H1 H') H' ∧ Rel cf R (grow Hs1 H1 H') (env1.set i (some (.lst ds'))) σ H' F0 wf := by
    intro R Hs1 H1 H' env1 σ F0 wf p xs' ds0 ds' r1 q0 hv hF hsc hr x
    have hp : p ∈ F0 i := by rw [hF]; exact List.mem_singleton.mpr rfl
    have r2 := r1.mut (i := i) (p := p) (o' := .lst xs') (v := .ref p) (d' := .lst ds') hp (lstAt_some q0) hv (by rw [hk, hF]; exact ⟨p, xs', ds', rfl, rfl, rfl, upd_same, hsc, hr⟩)
    have r3 := r2.grow x
    have eg : grow Hs1 (upd H1 p (.lst xs')) H' = grow Hs1 H1 H' := by
      funext a
      by_cases e : a = p
      · subst e
        have h1 : H1 a ≠ none := r1.fdom i a hp
        cases z : H1 a with
        | none => exact absurd z h1
        | some o => rw [grow_some z, grow_some (upd_same (H := H1) (a := a) (o := .lst xs'))]
      · unfold grow
        rw [upd_ne e]
    rw [eg] at r3
    refine ⟨⟨fun a h => ?_, ?_, fun a o hw h => ?_, fun a h => ?_, fun j hj => ?_⟩, r3⟩
    · by_cases e : a = p
      · subst e; exact x.dom (by rw [upd_same]; exact fun z => by cases z)
      · exact x.dom (by rw [upd_ne e]; exact h)
    · intro a o h
      rw [grow_some (r1.exs a o h)]; exact h
    · have : a ≠ p := fun e => by subst e; exact hw (r1.volw i hk _ hp)
      exact x a o (by rw [upd_ne this]; exact h)
    · cases z : H1 a with
      | none => exact absurd z h
      | some o => rw [grow_some z]
    · rw [List.getElem?_set_ne (fun e => by subst e; exact hj hk)]
  refine Sd.mk (fun R Hs env σ H F0 wf r d env' q Q k => ?_) (fun R Hs env σ H F0 wf r x env' q Q k => ?_)
  · unfold eCallW at q
    cases q0 : lstAt i env with
    | none => simp only [q0] at q; cases q
    | some ds00 =>
      simp only [q0] at q
      obtain ⟨p0, xs0, dz, _, a1, a2, a3, a4, a5⟩ := own_listW r hk (lstAt_some q0)
      refine ⟨.ref p0, a1, ?_⟩
      obtain ⟨ds, env1, q1, q2⟩ := bnd_ok q
      refine h.ok r q1 fun vs Hs1 H1 s1 r1 p1 => ?_
      cases q3 : lstAt i env1 with
      | none => simp only [q3] at q2; cases q2
      | some ds0 =>
        simp only [q3] at q2
        obtain ⟨p, xs, ds1, e1, h1, h2, h3, h4, h5⟩ := own_listW r1 hk (lstAt_some q3)
        cases e1
        have ep : p = p0 := by rw [h1] at a1; cases a1; rfl
        subst ep
        refine ⟨by rw [List.length_cons, p1.length]; exact hm _ _ _ q1, p, xs, ds0, vs, ds, rfl, h3, h4, h5, args r1 h2 p1, ?_⟩
        cases qf : F (.lst ds0 :: ds) with
        | ok d' io =>
          rw [qf] at q2
          unfold frW at q2
          simp only at q2
          split at q2
          · cases q2
            intro v H' xs' ds' eio hsc hr x pv
            subst eio
            obtain ⟨s2, r2⟩ := after r1 q3 h1 h2 hsc hr x
            have pv' : Rp cf.K true (rs (grow Hs1 H1 H') H) v d := pv.mono (nw_rs s1.dom)
            exact k v (grow Hs1 H1 H') H' (s1.trans s2) r2 pv' fun _ _ => pv'
          · cases q2
        | ex x io =>
          rw [qf] at q2
          unfold frW at q2
          simp only at q2
          split at q2 <;> cases q2
        | stuck => rw [qf] at q2; cases q2
  · unfold eCallW at q
    cases q0 : lstAt i env with
    | none => simp only [q0] at q; cases q
    | some ds00 =>
      simp only [q0] at q
      obtain ⟨p0, xs0, dz, _, a1, a2, a3, a4, a5⟩ := own_listW r hk (lstAt_some q0)
      refine ⟨.ref p0, a1, ?_⟩
      rcases bnd_ex q with q | ⟨ds, env1, q1, q2⟩
      · exact h.exn r q k
      · refine h.ok r q1 fun vs Hs1 H1 s1 r1 p1 => ?_
        cases q3 : lstAt i env1 with
        | none => simp only [q3] at q2; cases q2
        | some ds0 =>
          simp only [q3] at q2
          obtain ⟨p, xs, ds1, e1, h1, h2, h3, h4, h5⟩ := own_listW r1 hk (lstAt_some q3)
          cases e1
          have ep : p = p0 := by rw [h1] at a1; cases a1; rfl
          subst ep
          refine ⟨by rw [List.length_cons, p1.length]; exact hm _ _ _ q1, p, xs, ds0, vs, ds, rfl, h3, h4, h5, args r1 h2 p1, ?_⟩
          cases qf : F (.lst ds0 :: ds) with
          | ok d' io =>
            rw [qf] at q2
            unfold frW at q2
            simp only at q2
            split at q2 <;> cases q2
          | ex x' io =>
            rw [qf] at q2
            unfold frW at q2
            simp only at q2
            split at q2
            · cases q2
              intro H' xs' ds' eio hsc hr x
              subst eio
              obtain ⟨s2, r2⟩ := after r1 q3 h1 h2 hsc hr x
              exact k (grow Hs1 H1 H') H' (s1.trans s2) r2
            · cases q2
          | stuck => rw [qf] at q2; cases q2
theorem aLen_nil {ds : List D} {env env' : PEnv} (q : aNil env = .ok ds env') : ds.length = 0 := by cases q; rfl
theorem aLen_cons {fa : M D} {fr : M (List D)} {m : Nat} (h : ∀ ds env env', fr env = .ok ds env' → ds.length = m) {ds : List D} {env env' : PEnv} (q : aCons fa fr env = .ok ds env') : ds.length = m + 1 := by
  obtain ⟨d1, env1, q1, q⟩ := bnd_ok q
  obtain ⟨d2, env2, q2, q⟩ := bnd_ok q
  cases q
  rw [List.length_cons, h _ _ _ q2]
theorem se_call {F : List D → FR} {m k : Nat} {f : Addr} {fd : FuncData} {ps : List Str} {x : Str} {e : Expr} {es : List Expr} {ta : TA} {fa : M (List D)} {p pos : Pos} (hK : cf.K = X.K) (tk : L2N.Takes X W) (G : FnOk X.prog X.w X.K X.mg X.base (L2N.CX X.prog X.w) k f fd ps (spP X.K cf.cv m F)) (hr : Room k X.A) (hg : Gl X x) (hm : X.mg x = some (.ref f)) (hkp : PySem.W.keepIn X.K (.ref f) = true) (hb : Binds X.K fd ps []) (ha : SA X cf W .B (e :: es) ta fa) (hl : ∀ ds env env', fa env = .ok ds env' → ds.length = m)
    (hdb : (x == ("__debug__" : Str)) = false := by decide) (he : starEach (e :: es) X.env = (false, eval e X.env) :: starEach es X.env := by rfl) (hpl : (backTo pos (starEach es X.env)).any (·.1) = false := by rfl) :
    SE X cf W .V true (.Call (.Name x p) (e :: es) [] pos) (tCallS (spP cf.K cf.cv m F) (WE W) ta) (eCall F fa) := by
  refine ⟨?_, sd_call ha.s hl⟩
  rw [hK]
  exact pe_callS G hr hg hm hkp hb (fun σ => L2N.passAt tk σ) ha.p hdb he hpl
theorem se_callW {F : List D → FR} {m k i : Nat} {f : Addr} {fd : FuncData} {ps : List Str} {x : Str} {e : Expr} {es : List Expr} {ta : TA} {fa : M (List D)} {p pos : Pos} (hK : cf.K = X.K) (tk : L2N.Takes X W) (G : FnOk X.prog X.w X.K X.mg X.base (L2N.CX X.prog X.w) k f fd ps (spW X.K cf.cv m F)) (hr : Room k X.A) (hg : Gl X x) (hm : X.mg x = some (.ref f)) (hkp : PySem.W.keepIn X.K (.ref f) = true) (hb : Binds X.K fd ps []) (hk : cf.kd i = .W) (pe : PE X e (tVar i)) (ha : SA X cf W .B es ta fa) (hl : ∀ ds env env', fa env = .ok ds env' → ds.length + 1 = m)
    (hdb : (x == ("__debug__" : Str)) = false := by decide) (he : starEach (e :: es) X.env = (false, eval e X.env) :: starEach es X.env := by rfl) (hpl : (backTo pos (starEach es X.env)).any (·.1) = false := by rfl) :
    SE X cf W .V true (.Call (.Name x p) (e :: es) [] pos) (tCallS (spW cf.K cf.cv m F) (WE W) (tCons (tVar i) ta)) (eCallW F i fa) := by
  refine ⟨?_, sd_callW hk ha.s hl⟩
  rw [hK]
  exact pe_callS G hr hg hm hkp hb (fun σ => L2N.passAt tk σ) (pa_cons pe ha.p he) hdb he hpl
end
section
variable {P : Program} {w : World} {K : PySem.W.Frag} {mg : Str → Option Value} {base : Heap}
theorem start_get {N : List Str} {vs : List V} {i : Nat} {v : V} (h : vs[i]? = some v) : (L2.start N vs)[i]? = some (some v) := by
  unfold L2.start
  have hl : i < vs.length := (List.getElem?_eq_some_iff.mp h).1
  rw [List.getElem?_append_left (by rw [List.length_map]; exact hl), List.getElem?_map, h]
  rfl
theorem envOf_get {n : Nat} {ds : List D} {i : Nat} {d : D} (h : (envOf n ds)[i]? = some (some d)) : ds[i]? = some d := by
  unfold envOf at h
  by_cases hl : i < ds.length
  · rw [List.getElem?_append_left (by rw [List.length_map]; exact hl), List.getElem?_map] at h
    cases q : ds[i]? with
    | none => rw [q] at h; cases h
    | some d' => rw [q] at h; cases h; rfl
  · rw [List.getElem?_append_right (by rw [List.length_map]; omega), List.getElem?_replicate] at h
    split at h <;> cases h
theorem env_len {N : List Str} {ds : List D} {vs : List V} (h : vs.length = ds.length) : (envOf N.length ds).length = (L2.start N vs).length := by
  unfold envOf L2.start
  rw [List.length_append, List.length_append, List.length_map, List.length_map, List.length_replicate, List.length_replicate, h]
theorem okN {x qual : Str} {st : Stmt} {f : Addr} {fd : FuncData} {N ps : List Str} {k : Nat} {sp : Sp} (F : Fun K x qual st f fd) (S : FnScope N ps (defScope st)) (len : ∀ vs H Q E, sp vs H Q E → vs.length = ps.length)
    (hb : ∀ (cdv : Value) (A : Around) (outer : List Env) (s : Shared) (H : Hp) (vs : List V) (Q : VK) (E : XK), Room k (A.deeper (envOfC qual (defScope st) s.heap.objs.size f cdv)) → sp vs H Q E →
      ∃ t, PSs (cxOf (L2N.CX P w) P w K mg base N qual (defScope st) f cdv A outer s H E) (defBody st) t ∧ t { nx := fun _ H' => Q .non H', rt := Q } (L2.start N vs) H) : FnOk P w K mg base (L2N.CX P w) (k + 1) f fd ps sp := by
  obtain ⟨oc, od, kV, doc, pm, an, cdv, ct, osl, e, lk, hcd⟩ := F.ex
  subst e
  exact fn_of lk hcd S len fun A outer s H vs Q E hr h => hb cdv A outer s H vs Q E hr h
theorem takes0N {X : Cx} : L2N.Takes X (fun _ _ _ _ => False) := fun u s' x => by
  obtain ⟨a, B, sI, pins, σ, H, cls, d, _, _, _, _, _, _, _, _, z⟩ := x
  exact z.elim
theorem fn_P {x qual : Str} {st : Stmt} {f : Addr} {fd : FuncData} (N ps : List Str) (mN mP : Nat) {k : Nat} (cf : Cf) (g : M Fl) (hN : N.length = mN) (hP : ps.length = mP) (F : Fun K x qual st f fd) (S : FnScope N ps (defScope st)) (hK : cf.K = K) (hk : ∀ i, i < ps.length → cf.kd i = .S)
    (hbody : ∀ (cdv : Value) (A : Around) (outer : List Env) (s : Shared) (H : Hp) (E : XK), Room k (A.deeper (envOfC qual (defScope st) s.heap.objs.size f cdv)) → L2N.Takes (cxOf (L2N.CX P w) P w K mg base N qual (defScope st) f cdv A outer s H E) (fun cls d _ H => E cls d H) →
      PassesOwn (model P w) (A.deeper (envOfC qual (defScope st) s.heap.objs.size f cdv)) (envOfC qual (defScope st) s.heap.objs.size f cdv) (cxOf (L2N.CX P w) P w K mg base N qual (defScope st) f cdv A outer s H E).xe →
      SSs (cxOf (L2N.CX P w) P w K mg base N qual (defScope st) f cdv A outer s H E) cf (fun cls d _ H => E cls d H) (defBody st) g) :
    FnOk P w K mg base (L2N.CX P w) (k + 1) f fd ps (spP K cf.cv mP (runF mN g)) := by
  subst hN hP
  refine okN F S (fun vs H Q E h => h.1) (fun cdv A outer s H vs Q E hr h => ?_)
  obtain ⟨hl, ds, hd, h⟩ := h
  obtain ⟨t, p, sd⟩ := hbody cdv A outer s H E hr (L2N.takes_of rfl rfl rfl rfl) (passes_of rfl)
  refine ⟨t, p, ?_⟩
  have r : Rel cf ⟨H, none⟩ H (envOf N.length ds) (L2.start N vs) H (fun _ => []) [] :=
    { len := env_len hd.length
      exs := Ex.refl _
      ex0 := fun a o h _ => h
      dom0 := fun a h => h
      slot := fun i d q => by
        have q := envOf_get q
        obtain ⟨v, h1, h2⟩ := hd.get q
        refine ⟨v, start_get h1, ?_⟩
        rw [hk i (by rw [← hl, hd.length]; exact (List.getElem?_eq_some_iff.mp q).1), hK]
        exact h2
      nod := fun _ => List.nodup_nil
      dis := fun _ _ _ _ m => by cases m
      fdom := fun _ _ m => by cases m
      uns := fun _ _ m => by cases m
      new := fun _ _ m => by cases m
      volw := fun _ _ _ m => by cases m
      volb := fun _ _ _ m => by cases m
      wdom := fun _ m => by cases m
      ior := fun p h => by cases h }
  refine sd _ _ _ _ _ _ _ r _ ?_
  unfold runF at h
  have exH : ∀ {Hs' H' : Hp} {env' : PEnv} {σ' : L2.St} {F' : Nat → List Addr} {wf' : List Addr}, Rel cf ⟨H, none⟩ Hs' env' σ' H' F' wf' → Ex H H' := fun r' a o ha => r'.exs a o (r'.ex0 a o ha (fun z => by cases z))
  cases q : g (envOf N.length ds) with
  | stuck => rw [q] at h; exact h.elim
  | ex c e =>
    rw [q] at h
    exact fun Hs' σ' H' F' wf' _ r' => h H' (exH r')
  | ok fl e =>
    rw [q] at h
    cases fl with
    | nx => exact fun Hs' σ' H' F' wf' _ r' => h .non H' (exH r') .non
    | rt d => exact fun v Hs' σ' H' F' wf' _ r' pv => h v H' (exH r') (by
        rw [← hK]
        exact pv.mono fun a o ha => by
          have ha : rs (rm H' wf') H a = some o := ha
          cases z : H a with
          | none => rw [rs_none z] at ha; rw [nw_none z]; exact rm_sub _ _ a o ha
          | some u => rw [rs_some z] at ha; cases ha)
    | bk => exact h.elim
    | ct => exact h.elim
theorem ioOf_get {e : PEnv} {d : D} (h : e[0]? = some (some d)) : ioOf e = d := by
  cases e with
  | nil => cases h
  | cons a r =>
    have : a = some d := by simpa using h
    subst this
    rfl
theorem fn_W {x qual : Str} {st : Stmt} {f : Addr} {fd : FuncData} (N ps : List Str) (mN mP : Nat) {k : Nat} (cf : Cf) (g : M Fl) (hN : N.length = mN) (hP : ps.length = mP) (F : Fun K x qual st f fd) (S : FnScope N ps (defScope st)) (hK : cf.K = K) (h0 : cf.kd 0 = .W) (hk : ∀ i, 0 < i → i < ps.length → cf.kd i = .S)
    (hbody : ∀ (cdv : Value) (A : Around) (outer : List Env) (s : Shared) (H : Hp) (E : XK), Room k (A.deeper (envOfC qual (defScope st) s.heap.objs.size f cdv)) → L2N.Takes (cxOf (L2N.CX P w) P w K mg base N qual (defScope st) f cdv A outer s H E) (fun cls d _ H => E cls d H) →
      PassesOwn (model P w) (A.deeper (envOfC qual (defScope st) s.heap.objs.size f cdv)) (envOfC qual (defScope st) s.heap.objs.size f cdv) (cxOf (L2N.CX P w) P w K mg base N qual (defScope st) f cdv A outer s H E).xe →
      SSs (cxOf (L2N.CX P w) P w K mg base N qual (defScope st) f cdv A outer s H E) cf (fun cls d _ H => E cls d H) (defBody st) g) :
    FnOk P w K mg base (L2N.CX P w) (k + 1) f fd ps (spW K cf.cv mP (runF mN g)) := by
  subst hN hP
  refine okN F S (fun vs H Q E h => h.1) (fun cdv A outer s H vs Q E hr h => ?_)
  obtain ⟨hl, p, xs, ds0, vs', ds, rfl, hp, hsc, hr0, hd, h⟩ := h
  obtain ⟨t, pt, sd⟩ := hbody cdv A outer s H E hr (L2N.takes_of rfl rfl rfl rfl) (passes_of rfl)
  refine ⟨t, pt, ?_⟩
  have hpm : p ∈ [p] := List.mem_singleton.mpr rfl
  have r : Rel cf ⟨H, some p⟩ (rm H [p]) (envOf N.length (.lst ds0 :: ds)) (L2.start N (.ref p :: vs')) H (fun i => if i = 0 then [p] else []) [p] :=
    { len := env_len (by rw [List.length_cons, List.length_cons, hd.length])
      exs := rm_sub _ _
      ex0 := fun a o h n => by
        unfold rm
        rw [if_neg (fun m => n (by rw [List.mem_singleton.mp m]))]
        exact h
      dom0 := fun a h => h
      slot := fun i d q => by
        have q := envOf_get q
        cases i with
        | zero =>
          have q : D.lst ds0 = d := by simpa using q
          subst q
          refine ⟨.ref p, start_get rfl, ?_⟩
          rw [h0]
          exact ⟨p, xs, ds0, rfl, rfl, rfl, hp, hsc, by rw [hK]; exact hr0⟩
        | succ i =>
          have q : ds[i]? = some d := by simpa using q
          obtain ⟨v, h1, h2⟩ := hd.get q
          refine ⟨v, start_get (by simpa using h1), ?_⟩
          rw [hk (i + 1) (Nat.succ_pos i) (by rw [← hl, List.length_cons, hd.length]; exact Nat.succ_lt_succ (List.getElem?_eq_some_iff.mp q).1), hK]
          exact h2
      nod := fun i => by
        show (if i = 0 then [p] else []).Nodup
        split <;> simp
      dis := fun i j ne a m => by
        by_cases e : i = 0
        · rw [if_neg (fun z => ne (by rw [e, z]))]; exact fun z => by cases z
        · rw [if_neg e] at m; cases m
      fdom := fun i a m => by
        by_cases e : i = 0
        · rw [if_pos e] at m; rw [List.mem_singleton.mp m, hp]; exact fun z => by cases z
        · rw [if_neg e] at m; cases m
      uns := fun i a m => by
        by_cases e : i = 0
        · rw [if_pos e] at m; unfold rm; rw [if_pos m]
        · rw [if_neg e] at m; cases m
      new := fun i a m => by
        by_cases e : i = 0
        · rw [if_pos e] at m; exact .inl (by rw [List.mem_singleton.mp m])
        · rw [if_neg e] at m; cases m
      volw := fun i _ a m => by
        by_cases e : i = 0
        · rw [if_pos e] at m; exact m
        · rw [if_neg e] at m; cases m
      volb := fun i hw a m => by
        by_cases e : i = 0
        · subst e; exact absurd h0 hw
        · rw [if_neg e] at m; cases m
      wdom := fun a m => ⟨by rw [List.mem_singleton.mp m, hp]; exact (fun z => by cases z), by unfold rm; rw [if_pos m]⟩
      ior := fun q e => by
        cases e
        exact ⟨start_get rfl, if_pos rfl, h0, .lst ds0, by
          unfold envOf
          rfl⟩ }
  refine sd _ _ _ _ _ _ _ r _ ?_
  unfold runF at h
  have aft : ∀ {Hs' H' : Hp} {env' : PEnv} {σ' : L2.St} {F' : Nat → List Addr} {wf' : List Addr}, Rel cf ⟨H, some p⟩ Hs' env' σ' H' F' wf' → ∃ xs' ds', ioOf env' = .lst ds' ∧ ds'.all D.sc = true ∧ RpL K true emp xs' ds' ∧ Ex (upd H p (.lst xs')) H' := fun {Hs' H' env' σ' F' wf'} r' => by
    obtain ⟨g1, g2, g3, d, g4⟩ := r'.ior p rfl
    obtain ⟨v, s1, s2⟩ := r'.slot 0 d g4
    rw [h0] at s2
    obtain ⟨p2, xs', ds', e1, e2, e3, e4, e5, e6⟩ := s2
    rw [g2] at e3
    have e3 : p = p2 := by simpa using e3
    subst e3
    refine ⟨xs', ds', by rw [ioOf_get g4, e2], e5, by rw [← hK]; exact e6, fun a o ha => ?_⟩
    by_cases e : a = p
    · subst e; rw [upd_same] at ha; cases ha; exact e4
    · rw [upd_ne e] at ha
      exact r'.exs a o (r'.ex0 a o ha (fun z => by cases z; exact e rfl))
  cases q : g (envOf N.length (.lst ds0 :: ds)) with
  | stuck => rw [q] at h; exact h.elim
  | ex c e =>
    rw [q] at h
    intro Hs' σ' H' F' wf' _ r'
    obtain ⟨xs', ds', a1, a2, a3, a4⟩ := aft r'
    exact h H' xs' ds' a1 a2 a3 a4
  | ok fl e =>
    rw [q] at h
    cases fl with
    | nx =>
      intro Hs' σ' H' F' wf' _ r'
      obtain ⟨xs', ds', a1, a2, a3, a4⟩ := aft r'
      exact h .non H' xs' ds' a1 a2 a3 a4 .non
    | rt d =>
      intro v Hs' σ' H' F' wf' _ r' pv
      obtain ⟨xs', ds', a1, a2, a3, a4⟩ := aft r'
      refine h v H' xs' ds' a1 a2 a3 a4 ?_
      rw [← hK]
      exact pv.mono fun a o ha => by
        have ha : rs (rm H' wf') H a = some o := ha
        cases z : H a with
        | none => rw [rs_none z] at ha; rw [nw_none z]; exact rm_sub _ _ a o ha
        | some u => rw [rs_some z] at ha; cases ha
    | bk => exact h.elim
    | ct => exact h.elim
end
end MV
namespace MV
open PySem PySem.Spec PyProof.Rows L2
section
variable {X : Cx} {cf : Cf} {W : WX} {c ca cb : Cls} {n n1 n2 : Bool} {a b : Expr} {ta tb : TE} {fa fb : M D} {pos : Pos}
theorem se_add (ha : SE X cf W c n1 a ta fa) (hb : SE X cf W c n2 b tb fb) : SE X cf W c true (.BinOp a .Add b pos) (tOp rAdd3 ta tb) (e2 gAdd fa fb) := se_bin op_add3 snd_add ha hb
theorem se_mul (ha : SE X cf W c n1 a ta fa) (hb : SE X cf W c n2 b tb fb) : SE X cf W c true (.BinOp a .Mult b pos) (tOp rMul2 ta tb) (e2 gMul fa fb) := se_bin op_mul2 snd_mul ha hb
theorem sc_sub : ScF (e2 gSub fa fb) := gI2_sc fun i j d h => by cases h; rfl
theorem sc_fdiv : ScF (e2 gFdiv fa fb) := gI2_sc fun i j d h => by split at h <;> cases h; rfl
theorem sc_mod : ScF (e2 gMod fa fb) := gI2_sc fun i j d h => by split at h <;> cases h; rfl
theorem sc_pow : ScF (e2 gPow fa fb) := gI2_sc fun i j d h => by split at h <;> cases h; rfl
theorem sc_gt : ScF (e2 gGt fa fb) := gI2_sc fun i j d h => by cases h; rfl
theorem sc_map {o : Option Bool} {g : Bool → Bool} {d : D} (h : (o.map fun k => D.bl (g k)) = some d) : d.sc = true := by
  cases o with
  | none => cases h
  | some b => cases h; rfl
theorem sc_eq : ScF (e2 gEq fa fb) := e2_sc fun x y d h => sc_map (g := id) h
theorem sc_ne : ScF (e2 gNe fa fb) := e2_sc fun x y d h => sc_map h
theorem se_sub (ha : SE X cf W ca n1 a ta fa) (hb : SE X cf W cb n2 b tb fb) : SE X cf W .V true (.BinOp a .Sub b pos) (tOp (rI0 fun i j => .int (i - j)) ta tb) (e2 gSub fa fb) := (se_bin op_sub snd_sub ha.b hb.b).low sc_sub
theorem se_fdiv (ha : SE X cf W ca n1 a ta fa) (hb : SE X cf W cb n2 b tb fb) : SE X cf W .V true (.BinOp a .FloorDiv b pos) (tOp rFdiv ta tb) (e2 gFdiv fa fb) := (se_bin (op_fdiv.or op_fdivW) snd_fdiv ha.b hb.b).low sc_fdiv
theorem se_mod (ha : SE X cf W ca n1 a ta fa) (hb : SE X cf W cb n2 b tb fb) : SE X cf W .V true (.BinOp a .Mod b pos) (tOp (rI (fun _ j => 0 < j) fun i j => .int (i % j)) ta tb) (e2 gMod fa fb) := (se_bin op_mod snd_mod ha.b hb.b).low sc_mod
theorem se_pow (ha : SE X cf W ca n1 a ta fa) (hb : SE X cf W cb n2 b tb fb) : SE X cf W .V true (.BinOp a .Pow b pos) (tOp (rI CPow fun i j => .int (i ^ j.toNat)) ta tb) (e2 gPow fa fb) := (se_bin op_pow snd_pow ha.b hb.b).low sc_pow
theorem se_neg (ha : SE X cf W ca n1 a ta fa) : SE X cf W .V true (.UnaryOp .USub a pos) (tUn (rU fun i => .int (-i)) ta) (e1 gNeg fa) := (se_una un_neg snd_neg ha.b).low (e1_sc fun x d h => by
  unfold gNeg at h
  split at h <;> cases h; rfl)
theorem se_gt (ha : SE X cf W ca n1 a ta fa) (hb : SE X cf W cb n2 b tb fb) : SE X cf W .V true (.Compare a [.Gt] [b] pos) (tOp (rI0 fun i j => .bl (decide (j < i))) ta tb) (e2 gGt fa fb) := (se_cmp op_gt snd_gt ha.b hb.b (nomark _)).low sc_gt
theorem se_eq (hK : cf.K = X.K) (hu : X.A.units + 64 < cLine) (ha : SE X cf W ca n1 a ta fa) (hb : SE X cf W cb n2 b tb fb) : SE X cf W .V true (.Compare a [.Eq] [b] pos) (tOp (rEq2 cf.K) ta tb) (e2 gEq fa fb) := by
  rw [hK]
  exact (se_cmp (op_eq2 hu) (by rw [hK]; exact snd_eq) ha.b hb.b (nomark _)).low sc_eq
theorem se_ne (hK : cf.K = X.K) (hu : X.A.units + 64 < cLine) (ha : SE X cf W ca n1 a ta fa) (hb : SE X cf W cb n2 b tb fb) : SE X cf W .V true (.Compare a [.NotEq] [b] pos) (tOp (rNe2 cf.K) ta tb) (e2 gNe fa fb) := by
  rw [hK]
  exact (se_cmp (op_ne2 hu) (by rw [hK]; exact snd_ne) ha.b hb.b (nomark _)).low sc_ne
theorem st_lt (ha : SE X cf W ca n1 a ta fa) (hb : SE X cf W cb n2 b tb fb) : ST X cf W (.Compare a [.Lt] [b] pos) (tTest (tOp (rI0 fun i j => .bl (decide (i < j))) ta tb)) (tB (e2 gLt fa fb)) := st_cmp op_lt snd_lt ha.b hb.b (nomark _)
theorem st_le (ha : SE X cf W ca n1 a ta fa) (hb : SE X cf W cb n2 b tb fb) : ST X cf W (.Compare a [.LtE] [b] pos) (tTest (tOp (rI0 fun i j => .bl (decide (i ≤ j))) ta tb)) (tB (e2 gLe fa fb)) := st_cmp op_le snd_le ha.b hb.b (nomark _)
theorem st_gt (ha : SE X cf W ca n1 a ta fa) (hb : SE X cf W cb n2 b tb fb) : ST X cf W (.Compare a [.Gt] [b] pos) (tTest (tOp (rI0 fun i j => .bl (decide (j < i))) ta tb)) (tB (e2 gGt fa fb)) := st_cmp op_gt snd_gt ha.b hb.b (nomark _)
theorem st_eq (hK : cf.K = X.K) (hu : X.A.units + 64 < cLine) (ha : SE X cf W ca n1 a ta fa) (hb : SE X cf W cb n2 b tb fb) : ST X cf W (.Compare a [.Eq] [b] pos) (tTest (tOp (rEq2 cf.K) ta tb)) (tB (e2 gEq fa fb)) := by
  rw [hK]
  exact st_cmp (op_eq2 hu) (by rw [hK]; exact snd_eq) ha.b hb.b (nomark _)
theorem st_ne (hK : cf.K = X.K) (hu : X.A.units + 64 < cLine) (ha : SE X cf W ca n1 a ta fa) (hb : SE X cf W cb n2 b tb fb) : ST X cf W (.Compare a [.NotEq] [b] pos) (tTest (tOp (rNe2 cf.K) ta tb)) (tB (e2 gNe fa fb)) := by
  rw [hK]
  exact st_cmp (op_ne2 hu) (by rw [hK]; exact snd_ne) ha.b hb.b (nomark _)
theorem st_notIn (hK : cf.K = X.K) (ha : SE X cf W ca n1 a ta fa) (hb : SE X cf W cb n2 b tb fb) (hm : behindInMarks .NotIn b = false := by rfl) : ST X cf W (.Compare a [.NotIn] [b] pos) (tTest (tOp (rNotIn2 cf.K) ta tb)) (tB (e2 gNotIn fa fb)) := by
  rw [hK]
  exact st_cmp op_notIn2 (by rw [hK]; exact snd_notIn) ha.b hb.b hm
variable {p : Pos} {tA : TA} {fA : M (List D)} {e : Expr} {es : List Expr}
theorem SA.one (h : SE X cf W ca n1 a ta fa) (hs : starEach [a] X.env = (false, eval a X.env) :: starEach [] X.env := by rfl) : SA X cf W .B [a] (tCons ta tNil) (aCons fa aNil) := sa_cons h.b sa_nil hs
theorem scN {g : List D → Option D} (hg : ∀ x d, g x = some d → d.sc = true) : ScF (eN g fA) := eN_sc hg
theorem sc_len (x : List D) (d : D) (h : gLen x = some d) : d.sc = true := by
  unfold gLen at h
  split at h
  · cases h; rfl
  · cases h; rfl
  · split at h <;> cases h; rfl
  · cases h
theorem sc_max2 (x : List D) (d : D) (h : gMax2 x = some d) : d.sc = true := by unfold gMax2 at h; split at h <;> cases h; rfl
theorem sc_int1 (x : List D) (d : D) (h : gInt1 x = some d) : d.sc = true := by unfold gInt1 at h; split at h <;> cases h <;> rfl
theorem sc_min1 (x : List D) (d : D) (h : gMin1 x = some d) : d.sc = true := by
  unfold gMin1 at h
  split at h
  · split at h
    · split at h <;> cases h; rfl
    · cases h
  · cases h
theorem se_len (hK : cf.K = X.K) (hm : X.mg "len" = none) (ha : SA X cf W ca (e :: es) tA fA) (hg : Gl X "len" := by rfl) (he : starEach (e :: es) X.env = (false, eval e X.env) :: starEach es X.env := by rfl) (hpl : (backTo pos (starEach es X.env)).any (·.1) = false := by rfl) :
    SE X cf W .V true (.Call (.Name "len" p) (e :: es) [] pos) (tCB (fun xs H Q => ∃ x n, xs = [x] ∧ LenV cf.K x H n ∧ Q (.int n) H) tA) (eN gLen fA) := by
  rw [hK]
  exact (se_cb call_len (n := true) (by rw [hK]; exact snd_len) hg hm PySem.boot_len ha (by decide) (by decide) he hpl).low (scN sc_len)
theorem se_max2 (hc : X.calm = true) (hm : X.mg "max" = none) (ha : SA X cf W ca (e :: es) tA fA) (hg : Gl X "max" := by rfl) (he : starEach (e :: es) X.env = (false, eval e X.env) :: starEach es X.env := by rfl) (hpl : (backTo pos (starEach es X.env)).any (·.1) = false := by rfl) :
    SE X cf W .V true (.Call (.Name "max" p) (e :: es) [] pos) (tCB (fun xs H Q => ∃ i j, xs = [.int i, .int j] ∧ Q (.int (if j > i then j else i)) H) tA) (eN gMax2 fA) := (se_cb (call_max2 hc) (n := true) snd_max2 hg hm (by decide +kernel) ha (by decide) (by decide) he hpl).low (scN sc_max2)
theorem se_min1 (hK : cf.K = X.K) (hc : X.calm = true) (hm : X.mg "min" = none) (ha : SA X cf W ca (e :: es) tA fA) (hg : Gl X "min" := by rfl) (he : starEach (e :: es) X.env = (false, eval e X.env) :: starEach es X.env := by rfl) (hpl : (backTo pos (starEach es X.env)).any (·.1) = false := by rfl) :
    SE X cf W .V true (.Call (.Name "min" p) (e :: es) [] pos) (tCB (rMin cf.K) tA) (eN gMin1 fA) := by
  rw [hK]
  exact (se_cb (cr_min hc) (n := true) (by rw [hK]; exact snd_min1) hg hm (by decide +kernel) ha (by decide) (by decide) he hpl).low (scN sc_min1)
theorem se_int1 (hm : X.mg "int" = none) (ha : SA X cf W ca (e :: es) tA fA) (hg : Gl X "int" := by rfl) (he : starEach (e :: es) X.env = (false, eval e X.env) :: starEach es X.env := by rfl) (hpl : (backTo pos (starEach es X.env)).any (·.1) = false := by rfl) :
    SE X cf W .V true (.Call (.Name "int" p) (e :: es) [] pos) (tCB (fun xs H Q => (∃ i, xs = [.int i] ∧ Q (.int i) H) ∨ ∃ k, xs = [.bl k] ∧ Q (.int (if k then 1 else 0)) H) tA) (eN gInt1 fA) := (se_ct call_int1 (n := true) snd_int1 hg hm (by decide +kernel) ha (by decide) (by decide) he hpl).low (scN sc_int1)
theorem se_list1 (hK : cf.K = X.K) (hm : X.mg "list" = none) (ha : SA X cf W c (e :: es) tA fA) (hg : Gl X "list" := by rfl) (he : starEach (e :: es) X.env = (false, eval e X.env) :: starEach es X.env := by rfl) (hpl : (backTo pos (starEach es X.env)).any (·.1) = false := by rfl) (hcm : X.calm = true := by rfl) :
    SE X cf W c true (.Call (.Name "list" p) (e :: es) [] pos) (tCB (rList1 cf.K) tA) (eN gList1 fA) := by
  rw [hK]
  exact se_ct (call_list_of.or (call_listS hcm)) (n := true) (by rw [hK]; exact snd_list1) hg hm (by decide +kernel) ha (by decide) (by decide) he hpl
end
end MV
namespace MV
open PySem PySem.Spec PyProof.Rows L2
def D.ty : D → Option String
  | .non => some "NoneType"
  | .bl _ => some "bool"
  | .int _ => some "int"
  | .str _ => some "str"
  | .lst _ => some "list"
  | .tup _ => some "tuple"
  | .dic _ => some "dict"
  | .dit _ => none
  | .exc _ => none
def isiB (a T : String) : Bool := a == T || (a == "bool" && T == "int")
def gIsi (T : String) (d : D) : Option D := match d.ty with
  | some a => some (.bl (isiB a T))
  | none => none
def eIsi (T : String) (f : M D) : M D := e1 (gIsi T) f
section
variable {X : Cx} {cf : Cf} {W : WX} {c ca cb : Cls} {n n1 n2 : Bool} {a b : Expr} {ta tb : TE} {fa fb : M D} {pos : Pos}
def eSlQ (i : Nat) (lo hi : M (Option Int)) : M D := fun e => match lstAt i e with
  | none => .stuck
  | some _ => bnd lo (fun l => bnd hi fun h => fun e => match lstAt i e with
    | some ds => if ds.all D.sc then .ok (.lst (cutA ds l h)) e else .stuck
    | none => .stuck) e
theorem q_list {R : Rs} {Hs : Hp} {env : PEnv} {σ : L2.St} {H : Hp} {F : Nat → List Addr} {wf : List Addr} {i : Nat} {ds : List D} (r : Rel cf R Hs env σ H F wf) (hk : cf.kd i = .Q) (h : lstAt i env = some ds) : ∃ p xs, σ[i]? = some (some (.ref p)) ∧ SqL cf.K H p xs ∧ RpL cf.K false Hs xs ds := by
  obtain ⟨v, h1, h2⟩ := r.slot i _ (lstAt_some h)
  rw [hk] at h2
  obtain ⟨a, xs, rfl, h3, h4⟩ := Rp.lst_inv h2
  exact ⟨a, xs, h1, ex_sql r.exs h3, h4⟩
theorem cut_all {ds : List D} {l h : Option Int} (hs : ds.all D.sc = true) : (cutA ds l h).all D.sc = true := by
  rw [List.all_eq_true] at hs ⊢
  intro x hx
  unfold cutA at hx
  exact hs x (List.mem_of_mem_drop (List.mem_of_mem_take hx))
theorem se_slQ {i : Nat} {o : Expr} {lo hi : Option Expr} {tl th : TO} {fl fh : M (Option Int)} {p2 : Pos} (hK : cf.K = X.K) (po : PE X o (tVar i)) (hk : cf.kd i = .Q) (hl : SO X cf W lo tl fl) (hh : SO X cf W hi th fh) : SE X cf W .V true (.Subscript o (.Slice lo hi none p2) pos) (tSl (rSlL cf.K) (tVar i) tl th) (eSlQ i fl fh) := by
  rw [hK]
  refine ⟨pe_slice sl_list po hl.p hh.p, Sd.mk (fun R Hs env σ H F wf r d env' q Q k => ?_) (fun R Hs env σ H F wf r x env' q Q k => ?_)⟩
  · unfold eSlQ at q
    cases q0 : lstAt i env with
    | none => simp only [q0] at q; cases q
    | some ds0 =>
      simp only [q0] at q
      obtain ⟨p0, xs0, a1, a2, a3⟩ := q_list r hk q0
      refine ⟨.ref p0, a1, ?_⟩
      obtain ⟨l, env1, q1, q⟩ := bnd_ok q
      obtain ⟨h, env2, q2, q⟩ := bnd_ok q
      refine hl.s.ok r q1 fun Hs1 H1 s1 r1 => hh.s.ok r1 q2 fun Hs2 H2 s2 r2 => ?_
      cases q3 : lstAt i env2 with
      | none => simp only [q3] at q; cases q
      | some ds =>
        simp only [q3] at q
        split at q
        · rename_i hsc
          cases q
          obtain ⟨p, xs, h1, h2, h3⟩ := q_list r2 hk q3
          have ep : p = p0 := by rw [h1] at a1; cases a1; rfl
          subst ep
          refine ⟨p, xs, rfl, by rw [← hK]; exact h2, fun pp hp => ?_⟩
          have rr : RpL cf.K true emp (cutV xs l h) (cutA ds l h) := (cutV_rp h3 l h).sc_any (cut_all hsc) _ _
          have hst : H pp = none := by
            cases z : H pp with
            | none => rfl
            | some u => exact absurd hp ((s1.trans s2).dom pp (by rw [z]; exact fun y => by cases y))
          have pv : Rp cf.K true (rs (grow Hs2 H2 (upd H2 pp (.lst (cutV xs l h)))) H) (.ref pp) (.lst (cutA ds l h)) := .lst (show rs _ H pp = _ by rw [rs_none hst, grow_none hp, upd_same]) (rr.sc_any (cut_all hsc) _ _)
          exact k _ (grow Hs2 H2 _) _ ((s1.trans s2).trans (Stp.grow r2.exs (Ex.new hp))) (r2.grow (Ex.new hp)) pv fun _ _ => pv
        · cases q
  · unfold eSlQ at q
    cases q0 : lstAt i env with
    | none => simp only [q0] at q; cases q
    | some ds0 =>
      simp only [q0] at q
      obtain ⟨p0, xs0, a1, a2, a3⟩ := q_list r hk q0
      refine ⟨.ref p0, a1, ?_⟩
      rcases bnd_ex q with q | ⟨l, env1, q1, q⟩
      · exact hl.s.exn r q k
      · rcases bnd_ex q with q | ⟨h, env2, q2, q⟩
        · exact hl.s.ok r q1 fun Hs1 H1 s1 r1 => hh.s.exn r1 q fun Hs2 H2 s2 r2 => k Hs2 H2 (s1.trans s2) r2
        · cases q3 : lstAt i env2 with
          | none => simp only [q3] at q; cases q
          | some ds => simp only [q3] at q; split at q <;> cases q
end
def spLaw (K : PySem.W.Frag) (F : List D → FR) : Sp := fun vs H Q _ => vs.length = 1 ∧ ∃ (a : Addr) (ns : List Int), vs = [.ref a] ∧ SqL K H a (ns.map V.int) ∧ (∃ io, F [.lst (ns.map .int)] = .ok (.bl true) io) ∧ ∀ H', Q (.bl true) H'
section
variable {P : Program} {w : World} {K : PySem.W.Frag} {mg : Str → Option Value} {base : Heap}
theorem rpl_ints {K : PySem.W.Frag} {x : Bool} {G : Hp} : ∀ ns : List Int, RpL K x G (ns.map V.int) (ns.map D.int)
  | [] => .nil
  | n :: ns => .cons (.int n) (rpl_ints ns)
theorem fn_law {x qual : Str} {st : Stmt} {f : Addr} {fd : FuncData} (N : List Str) (mN : Nat) {y : Str} {k : Nat} (cf : Cf) (g : M Fl) (hN : N.length = mN) (F : Fun K x qual st f fd) (S : FnScope N [y] (defScope st)) (hK : cf.K = K) (hk : cf.kd 0 = .Q)
    (hbody : ∀ (cdv : Value) (A : Around) (outer : List Env) (s : Shared) (H : Hp) (E : XK), Room k (A.deeper (envOfC qual (defScope st) s.heap.objs.size f cdv)) → SSs (cxOf CX0 P w K mg base N qual (defScope st) f cdv A outer s H E).nox cf W0 (defBody st) g) :
    FnOk P w K mg base CX0 (k + 1) f fd [y] (spLaw K (runF mN g)) := by
  subst hN
  refine F.ok S (fun vs H Q E h => h.1) (fun cdv A outer s H vs Q E hr h => ?_)
  obtain ⟨hl, a, ns, rfl, hS, ⟨io, h⟩, hq⟩ := h
  obtain ⟨t, p, sd⟩ := hbody cdv A outer s H E hr
  refine ⟨t, p, ?_⟩
  have r : Rel cf ⟨H, none⟩ H (envOf N.length [.lst (ns.map .int)]) (L2.start N [.ref a]) H (fun _ => []) [] :=
    { len := env_len rfl
      exs := Ex.refl _
      ex0 := fun a o h _ => h
      dom0 := fun a h => h
      slot := fun i d q => by
        have q := envOf_get q
        cases i with
        | zero =>
          have q : D.lst (ns.map .int) = d := by simpa using q
          subst q
          refine ⟨.ref a, start_get rfl, ?_⟩
          rw [hk, hK]
          exact .lst hS (rpl_ints ns)
        | succ i => simp at q
      nod := fun _ => List.nodup_nil
      dis := fun _ _ _ _ m => by cases m
      fdom := fun _ _ m => by cases m
      uns := fun _ _ m => by cases m
      new := fun _ _ m => by cases m
      volw := fun _ _ _ m => by cases m
      volb := fun _ _ _ m => by cases m
      wdom := fun _ m => by cases m
      ior := fun p h => by cases h }
  refine sd _ _ _ _ _ _ _ r _ ?_
  unfold runF at h
  cases q : g (envOf N.length [.lst (ns.map .int)]) with
  | stuck => rw [q] at h; cases h
  | ex c e => rw [q] at h; cases h
  | ok fl e =>
    rw [q] at h
    cases fl with
    | nx => cases h
    | rt d =>
      cases h
      exact fun v Hs' σ' H' F' wf' _ r' pv => by rw [pv.bl_inv]; exact hq H'
    | bk => cases h
    | ct => cases h
end
end MV
namespace MV
open PySem PySem.Spec PyProof.Rows L2
theorem aLen1 {fr : M (List D)} {m : Nat} (h : ∀ ds env env', fr env = .ok ds env' → ds.length = m) : ∀ ds env env', fr env = .ok ds env' → ds.length + 1 = m + 1 := fun ds e e2 q => congrArg (· + 1) (h ds e e2 q)
def WFUEL : Nat := 1000000
theorem own1 {cf : Cf} {x : Str} {j : Nat} (h : cf.kd j = .S) : ∀ i ∈ ([(x, j)] : List (Str × Nat)).map (·.2), cf.kd i = .S := fun i m => by
  rw [List.mem_singleton.mp m]; exact h
section
variable {X : Cx} {cf : Cf} {W : WX} {c ca cb : Cls} {n n1 n2 : Bool}
section
variable {a b d e : Expr} {ta tb td te : TT} {fa fb fd fe : M Bool} {pos : Pos}
theorem st_or2 (ha : ST X cf W a ta fa) (hb : ST X cf W b tb fb) : ST X cf W (.BoolOp .Or [a, b] pos) (tOr ta tb) (tOr2 fa fb) := SW.st (sw_or ha (sw_or1 hb))
theorem st_and2 (ha : ST X cf W a ta fa) (hb : ST X cf W b tb fb) : ST X cf W (.BoolOp .And [a, b] pos) (tAnd ta tb) (tAnd2 fa fb) := SW.st (sw_and ha (sw_and1 hb))
theorem st_and3 (ha : ST X cf W a ta fa) (hb : ST X cf W b tb fb) (hd : ST X cf W d td fd) : ST X cf W (.BoolOp .And [a, b, d] pos) (tAnd ta (tAnd tb td)) (tAnd2 fa (tAnd2 fb fd)) := SW.st (sw_and ha (sw_and hb (sw_and1 hd)))
end
def sAug (g : Int → Int → Int) (i : Nat) (f : M D) : M Fl := fun e => match e[i]? with
  | some (some (.int x)) => bnd f (fun y => fun e => match y with
    | .int y => .ok .nx (e.set i (some (.int (g x y))))
    | _ => .stuck) e
  | _ => .stuck
theorem ss_aug {i : Nat} {x : Str} {op : Operator} {g : Int → Int → Int} {e : Expr} {te : TE} {f : M D} {pos' pos : Pos} (ho : PIp X op (ipI g)) (hk : cf.kd i = .S ∨ cf.kd i = .N) (h : SE X cf W c n e te f) (hN : X.N.Nodup) (hi : X.N[i]? = some x) (hx : Loc X.env.scope x)
    (hf : X.fn x = true ∨ X.env.scope.names.lookup x = some .local := by first | exact .inl rfl | exact .inr rfl | assumption) : SS X cf W (.AugAssign (.Name x pos') op e pos) (sAug g i f) := by
  refine ⟨_, ps_aug hN hi hx h.p ho hf, fun R Hs env σ H F wf r D hp => ?_⟩
  unfold sAug at hp
  split at hp
  · rename_i x0 q
    obtain ⟨v, h1, h2⟩ := r.slot i _ q
    have ev : v = .int x0 := by
      rcases hk with hk | hk
      · rw [hk] at h2; exact Rp.int_inv h2
      · rw [hk] at h2; exact Rp.int_inv h2
    refine ⟨v, h1, ?_⟩
    refine h.s.bind r hp fun d env1 w Hs1 H1 s1 r1 p1 _ hp => ?_
    cases d with
    | int y =>
      refine ⟨x0, y, ev, p1.int_inv, ?_⟩
      refine hp Hs1 _ H1 F wf s1.ex (r1.put (i := i) (v := .int (g x0 y)) (d := .int (g x0 y)) ?_ fun F' => ?_)
      · rcases hk with hk | hk <;> rw [hk] <;> exact fun z => by cases z
      · rcases hk with hk | hk <;> rw [hk] <;> exact .int _
    | _ => exact hp.elim
  · exact hp.elim
theorem ss_iadd {i : Nat} {x : Str} {e : Expr} {te : TE} {f : M D} {pos' pos : Pos} (hk : cf.kd i = .S ∨ cf.kd i = .N) (h : SE X cf W c n e te f) (hN : X.N.Nodup) (hi : X.N[i]? = some x) (hx : Loc X.env.scope x) (hf : X.fn x = true ∨ X.env.scope.names.lookup x = some .local := by first | exact .inl rfl | exact .inr rfl | assumption) :
    SS X cf W (.AugAssign (.Name x pos') .Add e pos) (sAug (fun i j => i + j) i f) := ss_aug ip_add hk h hN hi hx hf
def sPar (i j : Nat) (a : M (List D)) : M Fl := bnd a fun ds => fun e => match ds with
  | [d1, d2] => .ok .nx ((e.set i (some d1)).set j (some d2))
  | _ => .stuck
theorem ss_par {i j : Nat} {x y : Str} {a b : Expr} {ta : TA} {fa : M (List D)} {px py pt pos : Pos} {kt k2 : Nat} {pt2 : Pos} (hc : X.calm = true) (hki : cf.kd i = .S) (hkj : cf.kd j = .S) (hN : X.N.Nodup) (hi : X.N[i]? = some x) (hj : X.N[j]? = some y) (hij : i ≠ j)
    (hx : X.env.scope.names.lookup x = some .local) (hy : X.env.scope.names.lookup y = some .local) (ha : SA X cf W .S [a, b] ta fa)
    (hw : swappedStores [.Tuple [.Name x px, .Name y py] kt pt] (.Tuple [a, b] k2 pt2) X.env = pure (some [x, y]) := by rfl)
    (hs : swapsWithSole [.Tuple [.Name x px, .Name y py] kt pt] (.Tuple [a, b] k2 pt2) pos.line X.env = pure false := by rfl) :
    SS X cf W (.Assign [.Tuple [.Name x px, .Name y py] kt pt] (.Tuple [a, b] k2 pt2) pos) (sPar i j fa) := by
  refine ⟨_, ps_par hc hN hi hj hij hx hy ha.p hw hs, fun R Hs env σ H F wf r D hp => ?_⟩
  have h := ha.s R Hs env σ H F wf r fun vs H1 => ∃ v w, vs = [v, w] ∧ D.nx ((σ.set i (some v)).set j (some w)) H1
  unfold sPar at hp
  cases q : fa env with
  | stuck => rw [bnd_of_stuck q] at hp; exact hp.elim
  | ex x env1 =>
    rw [q] at h
    rw [bnd_of_ex q] at hp
    exact h fun Hs1 H1 s1 r1 => hp Hs1 σ H1 F wf s1.ex r1
  | ok ds env1 =>
    rw [q] at h
    rw [bnd_of_ok q] at hp
    refine h fun vs Hs1 H1 s1 r1 p1 => ?_
    split at hp
    · obtain ⟨v, w, rfl, h1, h2⟩ := p1.two
      refine ⟨v, w, rfl, ?_⟩
      exact hp Hs1 _ H1 F wf s1.ex ((r1.put (by rw [hki]; exact fun z => by cases z) fun F' => by rw [hki]; exact h1).put (by rw [hkj]; exact fun z => by cases z) fun F' => by rw [hkj]; exact h2)
    · exact hp.elim
def sUnp (f : M D) (tg : D → M Unit) : M Fl := bnd f fun d => bnd (tg d) fun _ => ret .nx
end
end MV
namespace MV
open PySem (Str)
abbrev dI (l : List Int) : D := .lst (l.map .int)
abbrev dT (l : List Str) : D := .lst (l.map .str)
def rb {α β : Type} (r : Res α) (k : α → PEnv → Res β) : Res β := match r with
  | .ok a e => k a e
  | .ex c e => .ex c e
  | .stuck => .stuck
section
variable {α β : Type} {m : M α} {k : α → M β} {e : PEnv} {f g fa fb fc : M D} {a b : M Fl} {t u : M Bool} {r : M (List D)}
@[simp] theorem rb_ok {a : α} {e : PEnv} {k : α → PEnv → Res β} : rb (.ok a e) k = k a e := (rfl)
@[simp] theorem rb_ex {c : Str} {e : PEnv} {k : α → PEnv → Res β} : rb (.ex c e) k = .ex c e := (rfl)
@[simp] theorem rb_stuck {k : α → PEnv → Res β} : rb .stuck k = .stuck := (rfl)
@[simp] theorem rb_ite {p : Prop} [Decidable p] {x y : Res α} {k : α → PEnv → Res β} : rb (if p then x else y) k = if p then rb x k else rb y k := by split <;> rfl
@[simp] theorem r_ret {x : α} : ret x e = .ok x e := (rfl)
@[simp] theorem r_bnd : bnd m k e = rb (m e) k := (rfl)
@[simp] theorem r_lift_some {x : α} : lift (some x) e = .ok x e := (rfl)
@[simp] theorem r_lift_none : lift (none : Option α) e = .stuck := (rfl)
@[simp] theorem r_lift_ite {p : Prop} [Decidable p] {x y : Option α} : lift (if p then x else y) e = if p then lift x e else lift y e := by split <;> rfl
@[simp] theorem r_fail : (fail : M α) e = .stuck := (rfl)
@[simp] theorem r_eC {d : D} : eC d e = .ok d e := (rfl)
def getE (o : Option (Option D)) (e : PEnv) : Res D := match o with
  | some (some d) => .ok d e
  | _ => .stuck
@[simp] theorem getE_some {d : D} : getE (some (some d)) e = .ok d e := (rfl)
@[simp] theorem r_eV {i : Nat} : eV i e = getE (e[i]?) e := (rfl)
@[simp] theorem r_e1 {h : D → Option D} : e1 h fa e = rb (fa e) fun x e => lift (h x) e := (rfl)
@[simp] theorem r_e2 {h : D → D → Option D} : e2 h fa fb e = rb (fa e) fun x e => rb (fb e) fun y e => lift (h x y) e := (rfl)
@[simp] theorem r_eN {h : List D → Option D} : eN h r e = rb (r e) fun x e => lift (h x) e := (rfl)
@[simp] theorem r_aNil : aNil e = .ok [] e := (rfl)
@[simp] theorem r_aCons : aCons fa r e = rb (fa e) fun x e => rb (r e) fun xs e => .ok (x :: xs) e := (rfl)
@[simp] theorem r_tB : tB fa e = rb (fa e) fun x e => lift (asB x) e := (rfl)
@[simp] theorem r_asB {b : Bool} : asB (.bl b) = some b := (rfl)
@[simp] theorem r_tAnd2 : tAnd2 t u e = rb (t e) fun x e => if x then u e else .ok false e := by
  show rb (t e) _ = _
  congr 1; funext x e; cases x <;> rfl
@[simp] theorem r_tOr2 : tOr2 t u e = rb (t e) fun x e => if x then .ok true e else u e := by
  show rb (t e) _ = _
  congr 1; funext x e; cases x <;> rfl
@[simp] theorem r_tNot1 : tNot1 t e = rb (t e) fun x e => .ok (!x) e := (rfl)
@[simp] theorem r_tTrue : tTrue e = .ok true e := (rfl)
@[simp] theorem r_eAndV : eAndV fa fb e = rb (fa e) fun x e => rb (lift (asB x) e) fun k e => if k then fb e else .ok (.bl false) e := by
  show rb (fa e) _ = _
  congr 1; funext x e
  show rb _ _ = _
  congr 1; funext k e; cases k <;> rfl
@[simp] theorem r_eOrV : eOrV fa fb e = rb (fa e) fun x e => rb (lift (asB x) e) fun k e => if k then .ok (.bl true) e else fb e := by
  show rb (fa e) _ = _
  congr 1; funext x e
  show rb _ _ = _
  congr 1; funext k e; cases k <;> rfl
@[simp] theorem r_eNotV : eNotV fa e = rb (fa e) fun x e => rb (lift (asB x) e) fun k e => .ok (.bl (!k)) e := (rfl)
@[simp] theorem r_eIfE : eIfE t fa fb e = rb (t e) fun k e => if k then fa e else fb e := by
  show rb (t e) _ = _
  congr 1; funext k e; cases k <;> rfl
@[simp] theorem r_eF : eF fa e = rb (fa e) fun d e => if d.flat then .ok d e else .stuck := by
  show rb (fa e) _ = _
  congr 1; funext d e; cases h : d.flat <;> simp [h]
@[simp] theorem r_eS : eS fa e = rb (fa e) fun d e => if d.sc then .ok d e else .stuck := by
  show rb (fa e) _ = _
  congr 1; funext d e; cases h : d.sc <;> simp [h]
@[simp] theorem r_sSkip : sSkip e = .ok .nx e := (rfl)
@[simp] theorem r_sBrk : sBrk e = .ok .bk e := (rfl)
@[simp] theorem r_sCont : sCont e = .ok .ct e := (rfl)
def sqK (b : M Fl) : Fl → PEnv → Res Fl
  | .nx, e => b e
  | .rt d, e => .ok (.rt d) e
  | .bk, e => .ok .bk e
  | .ct, e => .ok .ct e
@[simp] theorem sqK_nx : sqK b .nx e = b e := (rfl)
@[simp] theorem sqK_rt {d : D} : sqK b (.rt d) e = .ok (.rt d) e := (rfl)
@[simp] theorem sqK_bk : sqK b .bk e = .ok .bk e := (rfl)
@[simp] theorem sqK_ct : sqK b .ct e = .ok .ct e := (rfl)
@[simp] theorem r_sSeq : sSeq a b e = rb (a e) (sqK b) := by
  show rb (a e) _ = _
  congr 1; funext f e; cases f <;> rfl
@[simp] theorem r_sDrop : sDrop fa e = rb (fa e) fun _ e => .ok .nx e := (rfl)
@[simp] theorem r_sRet : sRet fa e = rb (fa e) fun d e => .ok (.rt d) e := (rfl)
@[simp] theorem r_sRetN : sRetN e = .ok (.rt .non) e := (rfl)
@[simp] theorem r_sIf : sIf t a b e = rb (t e) fun k e => if k then a e else b e := by
  show rb (t e) _ = _
  congr 1; funext k e; cases k <;> rfl
@[simp] theorem r_sSet {i : Nat} : sSet i fa e = rb (fa e) fun d e => .ok .nx (e.set i (some d)) := (rfl)
@[simp] theorem r_sSetM {i : Nat} : sSetM i fa e = rb (fa e) fun d e => if mok d then .ok .nx (e.set i (some d)) else .stuck := by
  show rb (fa e) _ = _
  congr 1; funext d e; cases h : mok d <;> simp [h]
@[simp] theorem r_sSetW {i : Nat} : sSetW i fa e = rb (fa e) fun d e => if wok d then .ok .nx (e.set i (some d)) else .stuck := by
  show rb (fa e) _ = _
  congr 1; funext d e; cases h : wok d <;> simp [h]
def lstO (o : Option (Option D)) : Option (List D) := match o with
  | some (some (.lst ds)) => some ds
  | _ => none
@[simp] theorem lstO_some {ds : List D} : lstO (some (some (.lst ds))) = some ds := (rfl)
@[simp] theorem r_lstAt {i : Nat} : lstAt i e = lstO (e[i]?) := (rfl)
def ro {α β : Type} (o : Option α) (k : α → Res β) : Res β := match o with
  | some a => k a
  | none => .stuck
@[simp] theorem ro_some {a : α} {k : α → Res β} : ro (some a) k = k a := (rfl)
@[simp] theorem ro_none {k : α → Res β} : ro none k = .stuck := (rfl)
@[simp] theorem r_sApp {i : Nat} : sApp i fa e = ro (lstO (e[i]?)) fun _ => rb (fa e) fun d e => ro (lstO (e[i]?)) fun ds => if ds.length < LIM then .ok .nx (e.set i (some (.lst (ds ++ [d])))) else .stuck := by
  unfold sApp
  show _ = ro (lstAt i e) _
  cases lstAt i e with
  | none => rfl
  | some ds =>
    show rb (fa e) _ = _
    simp only [ro_some]
    congr 1; funext d e
    show _ = ro (lstAt i e) _
    cases lstAt i e <;> rfl
def asInt : D → Option Int
  | .int i => some i
  | _ => none
@[simp] theorem asInt_int {i : Int} : asInt (.int i) = some i := (rfl)
@[simp] theorem r_sPut {i : Nat} : sPut i fa fb e = rb (fa e) fun d e => ro (lstO (e[i]?)) fun _ => rb (fb e) fun k e => ro (lstO (e[i]?)) fun ds => ro (asInt k) fun z => ro (L2.ixN ds.length z) fun j => .ok .nx (e.set i (some (.lst (ds.set j d)))) := by
  show rb (fa e) _ = _
  congr 1; funext d e
  show _ = ro (lstAt i e) _
  cases lstAt i e with
  | none => rfl
  | some ds =>
    show rb (fb e) _ = _
    simp only [ro_some]
    congr 1; funext k e
    show _ = ro (lstAt i e) _
    cases lstAt i e with
    | none => rfl
    | some ds =>
      simp only [ro_some]
      cases k <;> first | rfl | (simp only [asInt_int, ro_some]; cases L2.ixN ds.length _ <;> rfl)
@[simp] theorem r_sPutW {i : Nat} : sPutW i fa fb e = rb (fa e) fun d e => ro (lstO (e[i]?)) fun _ => rb (fb e) fun k e => ro (lstO (e[i]?)) fun ds => ro (asInt k) fun z => ro (L2.ixN ds.length z) fun j => if d.sc then .ok .nx (e.set i (some (.lst (ds.set j d)))) else .stuck := by
  show rb (fa e) _ = _
  congr 1; funext d e
  show _ = ro (lstAt i e) _
  cases lstAt i e with
  | none => rfl
  | some ds =>
    show rb (fb e) _ = _
    simp only [ro_some]
    congr 1; funext k e
    show _ = ro (lstAt i e) _
    cases lstAt i e with
    | none => rfl
    | some ds =>
      simp only [ro_some]
      cases k <;> first | rfl | (simp only [asInt_int, ro_some]; cases L2.ixN ds.length _ <;> rfl)
@[simp] theorem r_eIxW {i : Nat} : eIxW i fa e = ro (lstO (e[i]?)) fun _ => rb (fa e) fun k e => ro (lstO (e[i]?)) fun ds => ro (asInt k) fun z => ro (L2.atI ds z) fun d => .ok d e := by
  unfold eIxW
  show _ = ro (lstAt i e) _
  cases lstAt i e with
  | none => rfl
  | some ds =>
    show rb (fa e) _ = _
    simp only [ro_some]
    congr 1; funext k e
    show _ = ro (lstAt i e) _
    cases lstAt i e with
    | none => rfl
    | some ds =>
      simp only [ro_some]
      cases k <;> first | rfl | (simp only [asInt_int, ro_some]; cases L2.atI ds _ <;> rfl)
@[simp] theorem r_sAug {i : Nat} {h : Int → Int → Int} : sAug h i fa e = ro ((e[i]?).bind id |>.bind asInt) fun x => rb (fa e) fun y e => ro (asInt y) fun y => .ok .nx (e.set i (some (.int (h x y)))) := by
  unfold sAug
  cases q : e[i]? with
  | none => rfl
  | some o =>
    cases o with
    | none => rfl
    | some d =>
      cases d with
      | int x =>
        show rb (fa e) _ = rb (fa e) _
        congr 1; funext y e; cases y <;> rfl
      | _ => rfl
def frR {β : Type} (r : FR) (k : D → D → Res β) (kx : Str → D → Res β) : Res β := match r with
  | .ok d io => k d io
  | .ex x io => kx x io
  | .stuck => .stuck
@[simp] theorem frR_ok {d io : D} {k : D → D → Res β} {kx : Str → D → Res β} : frR (.ok d io) k kx = k d io := (rfl)
@[simp] theorem frR_ex {x : Str} {io : D} {k : D → D → Res β} {kx : Str → D → Res β} : frR (.ex x io) k kx = kx x io := (rfl)
@[simp] theorem r_eCall {F : List D → FR} : eCall F r e = rb (r e) fun ds e => frR (F ds) (fun d _ => .ok d e) fun x _ => .ex x e := (rfl)
@[simp] theorem r_eCallW {F : List D → FR} {i : Nat} : eCallW F i r e = ro (lstO (e[i]?)) fun _ => rb (r e) fun ds e => ro (lstO (e[i]?)) fun ds0 => frR (F (.lst ds0 :: ds)) (fun d io => if wok io then .ok d (e.set i (some io)) else .stuck) fun x io => if wok io then .ex x (e.set i (some io)) else .stuck := by
  unfold eCallW
  show _ = ro (lstAt i e) _
  cases lstAt i e with
  | none => rfl
  | some ds =>
    show rb (r e) _ = _
    simp only [ro_some]
    congr 1; funext ds e
    show _ = ro (lstAt i e) _
    cases lstAt i e with
    | none => rfl
    | some ds0 =>
      simp only [ro_some]
      show frW i (F _) e = _
      cases F (.lst ds0 :: ds) <;> rfl
@[simp] theorem r_oNone : oNone e = .ok none e := (rfl)
@[simp] theorem r_oSome : oSome fa e = rb (fa e) fun d e => ro (asInt d) fun i => .ok (some i) e := by
  show rb (fa e) _ = _
  congr 1; funext d e; cases d <;> rfl
@[simp] theorem r_eSl {lo hi : M (Option Int)} : eSl fa lo hi e = rb (fa e) fun x e => rb (lo e) fun l e => rb (hi e) fun h e => lift (gSl x l h) e := (rfl)
@[simp] theorem r_iL : iL fa e = rb (fa e) fun d e => lift (asL d) e := (rfl)
@[simp] theorem r_iLs : iLs fa e = rb (fa e) fun d e => lift (asLs d) e := (rfl)
@[simp] theorem r_asLs {ds : List D} : asLs (.lst ds) = if ds.all D.sc then some ds else none := (rfl)
@[simp] theorem r_iT : iT fa e = rb (fa e) fun d e => lift (asT d) e := (rfl)
@[simp] theorem r_iS : iS fa e = rb (fa e) fun d e => lift (asStr d) e := (rfl)
@[simp] theorem r_iN {h : List D → Option (List D)} : iN h r e = rb (r e) fun x e => lift (h x) e := (rfl)
@[simp] theorem r_asL {ds : List D} : asL (.lst ds) = some ds := (rfl)
@[simp] theorem r_asT {ds : List D} : asT (.tup ds) = some ds := (rfl)
@[simp] theorem r_asStr {z : Str} : asStr (.str z) = some (strD z) := (rfl)
@[simp] theorem r_sFor {fi : M (List D)} {tg : D → M Unit} : sFor fi tg b e = rb (fi e) fun ds e => sForL tg b ds e := (rfl)
@[simp] theorem r_tgN {i : Nat} {d : D} : tgN i d e = .ok () (e.set i (some d)) := (rfl)
@[simp] theorem r_tgT {is : List Nat} {ds : List D} : tgT is (.tup ds) e = ro (setAll is ds e) fun e' => .ok () e' := by
  show (match setAll is ds e with | some e' => Res.ok () e' | none => .stuck) = _
  cases setAll is ds e <;> rfl
@[simp] theorem r_setAll_nil : setAll [] [] e = some e := (rfl)
@[simp] theorem r_setAll_cons {i : Nat} {is : List Nat} {d : D} {ds : List D} : setAll (i :: is) (d :: ds) e = setAll is ds (e.set i (some d)) := (rfl)
def lcK (is : List Nat) (e : PEnv) (r : Res (List D)) : Res D := match r with
  | .ok acc e1 => .ok (.lst acc) (restE is e e1)
  | _ => .stuck
@[simp] theorem lcK_ok {is : List Nat} {acc : List D} {e e1 : PEnv} : lcK is e (.ok acc e1) = .ok (.lst acc) (restE is e e1) := (rfl)
@[simp] theorem r_eLc {is : List Nat} {fi : M (List D)} {tg : D → M Unit} : eLc is fi tg t fa e = rb (fi e) fun ds e => lcK is e (lcGo is tg t fa ds [] (wipeE is e)) := (rfl)
@[simp] theorem wipeE_nil : wipeE [] e = e := (rfl)
@[simp] theorem wipeE_cons {v : Nat} {vs : List Nat} : wipeE (v :: vs) e = (wipeE vs e).set v none := (rfl)
@[simp] theorem restE_nil {e1 : PEnv} : restE [] e e1 = e1 := (rfl)
@[simp] theorem restE_cons {v : Nat} {vs : List Nat} {e1 : PEnv} : restE (v :: vs) e e1 = (restE vs e e1).set v ((e[v]?).getD none) := (rfl)
def finF (r : Res Fl) : FR := match r with
  | .ok (.rt d) e => .ok d (ioOf e)
  | .ok .nx e => .ok .non (ioOf e)
  | .ex c e => .ex c (ioOf e)
  | _ => .stuck
theorem r_runF {n : Nat} {ds : List D} : runF n a ds = finF (a (envOf n ds)) := (rfl)
@[simp] theorem finF_rt {d : D} : finF (.ok (.rt d) e) = .ok d (ioOf e) := (rfl)
@[simp] theorem finF_nx : finF (.ok .nx e) = .ok .non (ioOf e) := (rfl)
@[simp] theorem finF_ex {c : Str} : finF (.ex c e) = .ex c (ioOf e) := (rfl)
@[simp] theorem finF_ite {p : Prop} [Decidable p] {x y : Res Fl} : finF (if p then x else y) = if p then finF x else finF y := by split <;> rfl
@[simp] theorem ioOf_some {d : D} {e : PEnv} : ioOf (some d :: e) = d := (rfl)
@[simp] theorem ioOf_nil : ioOf [] = .non := (rfl)
@[simp] theorem r_envOf {n : Nat} {ds : List D} : envOf n ds = ds.map some ++ List.replicate (n - ds.length) none := (rfl)
section
variable {i j : Int} {x y : Str} {l l2 ds ds2 : List D} {k : Bool}
@[simp] theorem gSub_i : gSub (.int i) (.int j) = some (.int (i - j)) := (rfl)
@[simp] theorem gAdd_i : gAdd (.int i) (.int j) = some (.int (i + j)) := (rfl)
@[simp] theorem gAdd_l : gAdd (.lst l) (.lst l2) = if l.length + l2.length ≤ LIM then some (.lst (l ++ l2)) else none := (rfl)
@[simp] theorem gAdd_s : gAdd (.str x) (.str y) = if x.length + y.length ≤ LIM then some (.str (x ++ y)) else none := (rfl)
@[simp] theorem gMul_i : gMul (.int i) (.int j) = if mulOk i j then some (.int (i * j)) else none := (rfl)
@[simp] theorem gMul_s : gMul (.str x) (.int i) = if x.length * i.toNat ≤ LIM ∧ -(2 ^ 63) ≤ i ∧ i < 2 ^ 31 then some (.str (repS x i.toNat)) else none := (rfl)
@[simp] theorem gFdiv_i : gFdiv (.int i) (.int j) = if L2.CDiv i j ∨ divW j = true then some (.int (i / j)) else none := (rfl)
@[simp] theorem gShr_i : gShr (.int i) (.int j) = if 0 ≤ j then some (.int (i / 2 ^ j.toNat)) else none := (rfl)
@[simp] theorem gShl_i : gShl (.int i) (.int j) = if L2.CPow i j then some (.int (i * 2 ^ j.toNat)) else none := (rfl)
@[simp] theorem gMod_i : gMod (.int i) (.int j) = if 0 < j then some (.int (i % j)) else none := (rfl)
@[simp] theorem gPow_i : gPow (.int i) (.int j) = if L2.CPow i j then some (.int (i ^ j.toNat)) else none := (rfl)
@[simp] theorem gLt_i : gLt (.int i) (.int j) = some (.bl (decide (i < j))) := (rfl)
@[simp] theorem gLe_i : gLe (.int i) (.int j) = some (.bl (decide (i ≤ j))) := (rfl)
@[simp] theorem gGt_i : gGt (.int i) (.int j) = some (.bl (decide (j < i))) := (rfl)
@[simp] theorem gGe_i : gGe (.int i) (.int j) = some (.bl (decide (j ≤ i))) := (rfl)
@[simp] theorem gNeg_i : gNeg (.int i) = some (.int (-i)) := (rfl)
@[simp] theorem gEq_i : gEq (.int i) (.int j) = some (.bl (decide (i = j))) := (rfl)
@[simp] theorem gNe_i : gNe (.int i) (.int j) = some (.bl (!decide (i = j))) := (rfl)
@[simp] theorem gEq_s : gEq (.str x) (.str y) = some (.bl (decide (x = y))) := (rfl)
@[simp] theorem gNe_s : gNe (.str x) (.str y) = some (.bl (!decide (x = y))) := (rfl)
@[simp] theorem gLst_ : gLst ds = if ds.length ≤ PySem.sizeLine then some (.lst ds) else none := (rfl)
@[simp] theorem gTupD_ : gTupD ds = if ds.length ≤ PySem.sizeLine then some (.tup ds) else none := (rfl)
@[simp] theorem gLen_l : gLen [.lst ds] = some (.int ds.length) := (rfl)
@[simp] theorem gLen_t : gLen [.tup ds] = some (.int ds.length) := (rfl)
@[simp] theorem gLen_s : gLen [.str x] = if x.length ≤ LIM then some (.int x.length) else none := (rfl)
@[simp] theorem gMax2_i : gMax2 [.int i, .int j] = some (.int (if j > i then j else i)) := (rfl)
@[simp] theorem gMin2_i : gMin2 [.int i, .int j] = some (.int (if j < i then j else i)) := (rfl)
@[simp] theorem gInt1_i : gInt1 [.int i] = some (.int i) := (rfl)
@[simp] theorem gInt1_b : gInt1 [.bl k] = some (.int (if k then 1 else 0)) := (rfl)
@[simp] theorem gList1_l : gList1 [.lst ds] = some (.lst ds) := (rfl)
@[simp] theorem gIx_l : gIx (.lst ds) (.int i) = L2.atI ds i := (rfl)
@[simp] theorem gIx_t : gIx (.tup ds) (.int i) = L2.atI ds i := (rfl)
@[simp] theorem gIx_s : gIx (.str x) (.int i) = if x.length ≤ LIM then (L2.atI x.cps.toList i).map fun c => .str ⟨#[c]⟩ else none := (rfl)
@[simp] theorem gSl_l {o o2 : Option Int} : gSl (.lst ds) o o2 = some (.lst (cutA ds o o2)) := (rfl)
@[simp] theorem gSl_s {o o2 : Option Int} : gSl (.str x) o o2 = if x.length ≤ LIM then some (.str (L2.cutS x o o2)) else none := (rfl)
@[simp] theorem gRev_l : gRev (.lst ds) = some (.lst ds.reverse) := (rfl)
@[simp] theorem gEn_l : gEn [.lst ds] = some (enumD ds) := (rfl)
@[simp] theorem gZp_l : gZp [.lst ds, .lst ds2] = some (zipD ds ds2) := (rfl)
@[simp] theorem gR1_i : gR1 [.int j] = if smallI j then some (rngD 0 j.toNat) else none := (rfl)
@[simp] theorem gR2_i : gR2 [.int i, .int j] = if smallI i && smallI j then some (rngD i (j - i).toNat) else none := (rfl)
@[simp] theorem sc_i : (D.int i).sc = true := (rfl)
@[simp] theorem sc_s : (D.str x).sc = true := (rfl)
@[simp] theorem sc_b : (D.bl k).sc = true := (rfl)
@[simp] theorem sc_n : D.non.sc = true := (rfl)
@[simp] theorem flat_i : (D.int i).flat = true := (rfl)
@[simp] theorem flat_s : (D.str x).flat = true := (rfl)
@[simp] theorem flat_b : (D.bl k).flat = true := (rfl)
@[simp] theorem flat_n : D.non.flat = true := (rfl)
@[simp] theorem flat_l : (D.lst ds).flat = ds.all D.sc := (rfl)
@[simp] theorem flat_t : (D.tup ds).flat = ds.all D.sc := (rfl)
@[simp] theorem wok_l : wok (.lst ds) = ds.all D.sc := (rfl)
@[simp] theorem mok_l : mok (.lst ds) = ds.all fun x => x.sc || match x with | .tup es => es.all D.sc | _ => false := (rfl)
theorem all_ints (l : List Int) : (l.map D.int).all D.sc = true := by simp [List.all_map]
theorem all_strs (l : List Str) : (l.map D.str).all D.sc = true := by simp [List.all_map]
@[simp] theorem mok_dI (l : List Int) : mok (dI l) = true := by simp [List.all_map]
@[simp] theorem mok_dT (l : List Str) : mok (dT l) = true := by simp [List.all_map]
@[simp] theorem flat_dI (l : List Int) : (dI l).flat = true := all_ints l
@[simp] theorem flat_dT (l : List Str) : (dT l).flat = true := all_strs l
@[simp] theorem wok_dI (l : List Int) : wok (dI l) = true := all_ints l
end
end
end MV
namespace MV
open PySem (Str PyData)
section
variable {tg : D → M Unit} {b : M Fl} {e : PEnv} {t : M Bool} {fe : M D} {is : List Nat}
theorem for_inv {ds : List D} (I : Nat → PEnv → Prop) (h0 : I 0 e) (hs : ∀ i d e, ds[i]? = some d → I i e → ∃ e1 e2 fl, tg d e = .ok () e1 ∧ b e1 = .ok fl e2 ∧ (fl = .nx ∨ fl = .ct) ∧ I (i + 1) e2) :
    ∃ e', sForL tg b ds e = .ok .nx e' ∧ I ds.length e' := by
  induction ds generalizing e I with
  | nil => exact ⟨e, rfl, h0⟩
  | cons d r ih =>
    obtain ⟨e1, e2, fl, h1, h2, h3, h4⟩ := hs 0 d e rfl h0
    obtain ⟨e', h5, h6⟩ := ih (e := e2) (fun i => I (i + 1)) h4 (fun i d e hd hi => hs (i + 1) d e (by simpa using hd) hi)
    refine ⟨e', ?_, by simpa using h6⟩
    rw [sForL, bnd_of_ok h1, bnd_of_ok h2]
    rcases h3 with rfl | rfl <;> exact h5
theorem while_inv (I : PEnv → Prop) (μ : PEnv → Nat) (Q : PEnv → Prop) (hs : ∀ e, I e → ∃ k e1, t e = .ok k e1 ∧ if k = true then ∃ fl e2, b e1 = .ok fl e2 ∧ (fl = .nx ∨ fl = .ct) ∧ I e2 ∧ μ e2 < μ e else Q e1) :
    ∀ (n : Nat) (e : PEnv), I e → μ e < n → ∃ e', sWhile t b n e = .ok .nx e' ∧ Q e' := by
  intro n
  induction n with
  | zero => intro e _ h; omega
  | succ n ih =>
    intro e hI hm
    obtain ⟨k, e1, h1, h2⟩ := hs e hI
    rw [sWhile, bnd_of_ok h1]
    cases k with
    | false => exact ⟨e1, rfl, h2⟩
    | true =>
      obtain ⟨fl, e2, h3, h4, h5, h6⟩ := h2
      obtain ⟨e', h7, h8⟩ := ih e2 h5 (by omega)
      refine ⟨e', ?_, h8⟩
      show bnd b (sAft (sWhile t b n)) e1 = _
      rw [bnd_of_ok h3]
      rcases h4 with rfl | rfl <;> exact h7
theorem lc_pure {α : Type} {φ : α → D} {p : α → Bool} {g : α → D} : ∀ (l : List α) (acc : List D), acc.length + l.length ≤ LIM →
    (∀ x ∈ l, ∃ e1 e2, tg (φ x) e = .ok () e1 ∧ t e1 = .ok (p x) e2 ∧ (p x = true → ∃ e3, fe e2 = .ok (g x) e3 ∧ wipeE is e3 = e) ∧ (p x = false → wipeE is e2 = e)) →
    lcGo is tg t fe (l.map φ) acc e = .ok (acc ++ (l.filter p).map g) e
  | [], acc, _, _ => by simp [lcGo]
  | x :: l, acc, hl, h => by
    obtain ⟨e1, e2, h1, h2, h3, h4⟩ := h x List.mem_cons_self
    rw [List.map_cons, lcGo, bnd_of_ok h1, bnd_of_ok h2]
    have ih := fun acc' hl' => lc_pure l acc' hl' fun y hy => h y (List.mem_cons_of_mem _ hy)
    rw [List.length_cons] at hl
    cases q : p x with
    | true =>
      obtain ⟨e3, h5, h6⟩ := h3 q
      show bnd fe _ e2 = _
      rw [bnd_of_ok h5, if_pos (by omega : acc.length < LIM)]
      show lcGo is tg t fe (l.map φ) (acc ++ [g x]) (wipeE is e3) = _
      rw [h6, ih (acc ++ [g x]) (by rw [List.length_append, List.length_singleton]; omega)]
      simp [List.filter_cons, q]
    | false =>
      show lcGo is tg t fe (l.map φ) acc (wipeE is e2) = _
      rw [h4 q, ih acc (by omega)]
      simp [List.filter_cons, q]
theorem lc_inv {ds : List D} (I : Nat → List D → PEnv → Prop) : ∀ (acc : List D) (e : PEnv), I 0 acc e → acc.length + ds.length ≤ LIM →
    (∀ i d acc e, ds[i]? = some d → I i acc e → ∃ e1 e2 k, tg d e = .ok () e1 ∧ t e1 = .ok k e2 ∧ (k = true → ∃ y e3, fe e2 = .ok y e3 ∧ I (i + 1) (acc ++ [y]) (wipeE is e3)) ∧ (k = false → I (i + 1) acc (wipeE is e2))) →
    ∃ a' e', lcGo is tg t fe ds acc e = .ok a' e' ∧ I ds.length a' e' := by
  induction ds generalizing I with
  | nil => intro acc e h0 _ _; exact ⟨acc, e, rfl, h0⟩
  | cons d r ih =>
    intro acc e h0 hl hs
    obtain ⟨e1, e2, k, h1, h2, h3, h4⟩ := hs 0 d acc e rfl h0
    rw [List.length_cons] at hl
    rw [lcGo, bnd_of_ok h1, bnd_of_ok h2]
    cases k with
    | true =>
      obtain ⟨y, e3, h5, h6⟩ := h3 rfl
      obtain ⟨a', e', h7, h8⟩ := ih (fun i => I (i + 1)) (acc ++ [y]) (wipeE is e3) h6 (by rw [List.length_append, List.length_singleton]; omega) (fun i d acc e hd hi => hs (i + 1) d acc e (by simpa using hd) hi)
      refine ⟨a', e', ?_, by simpa using h8⟩
      show bnd fe _ e2 = _
      rw [bnd_of_ok h5, if_pos (by omega : acc.length < LIM)]
      exact h7
    | false =>
      obtain ⟨a', e', h7, h8⟩ := ih (fun i => I (i + 1)) acc (wipeE is e2) (h4 rfl) (by omega) (fun i d acc e hd hi => hs (i + 1) d acc e (by simpa using hd) hi)
      exact ⟨a', e', h7, by simpa using h8⟩
end
section
variable {α β : Type}
theorem cutA_to (l : List α) (k : Nat) : cutA l none (some (k : Int)) = l.take k := by
  unfold cutA
  rw [HT.sIx_none, HT.sIx_nat, List.drop_zero, Nat.sub_zero]
  apply List.ext_getElem?
  intro i
  rw [List.getElem?_take, List.getElem?_take]
  by_cases h : i < k
  · by_cases h2 : i < l.length
    · rw [if_pos (by omega), if_pos h]
    · rw [List.getElem?_eq_none (by omega)]; simp
  · rw [if_neg (by omega), if_neg h]
theorem cutA_from (l : List α) (k : Nat) : cutA l (some (k : Int)) none = l.drop k := by
  unfold cutA
  rw [HT.sIx_none, HT.sIx_nat, List.take_of_length_le (by rw [List.length_drop]; omega)]
  apply List.ext_getElem?
  intro i
  rw [List.getElem?_drop, List.getElem?_drop]
  by_cases h2 : k ≤ l.length
  · rw [Nat.min_eq_left h2]
  · rw [List.getElem?_eq_none (by omega), List.getElem?_eq_none (by omega)]
theorem cutA_mid (l : List α) (i j : Nat) : cutA l (some (i : Int)) (some (j : Int)) = (l.drop i).take (j - i) := by
  unfold cutA
  rw [HT.sIx_nat, HT.sIx_nat]
  apply List.ext_getElem?
  intro m
  rw [List.getElem?_take, List.getElem?_take, List.getElem?_drop, List.getElem?_drop]
  by_cases h : i ≤ l.length
  · rw [Nat.min_eq_left h]
    by_cases h2 : i + m < l.length
    · by_cases h3 : m < j - i
      · rw [if_pos (by omega), if_pos h3]
      · rw [if_neg (by omega), if_neg h3]
    · rw [List.getElem?_eq_none (by omega)]; simp
  · rw [List.getElem?_eq_none (by omega), List.getElem?_eq_none (by omega)]; simp
theorem cutA_map (f : α → β) (l : List α) (lo hi : Option Int) : cutA (l.map f) lo hi = (cutA l lo hi).map f := by
  unfold cutA
  rw [List.length_map, List.map_take, List.map_drop]
theorem atI_eq (l : List α) (j : Nat) : L2.atI l (j : Int) = l[j]? := by
  cases h : l[j]? with
  | some v => exact L2.atI_nat h
  | none =>
    rw [List.getElem?_eq_none_iff] at h
    unfold L2.atI L2.ixN
    rw [if_pos (by omega), if_neg (by omega)]
    rfl
theorem atI_neg1 (l : List α) : L2.atI l (-1) = l.getLast? := by
  cases h : l with
  | nil => rfl
  | cons a r =>
    unfold L2.atI L2.ixN
    rw [if_neg (by decide), if_pos (by simp; omega)]
    rw [List.getLast?_eq_getElem?]
    show (a :: r)[(-1 + ((a :: r).length : Int)).toNat]? = _
    congr 1
    simp
    omega
theorem ixN_nat {n j : Nat} (h : j < n) : L2.ixN n (j : Int) = some j := by
  unfold L2.ixN
  rw [if_pos (by omega), if_pos (by omega)]
  simp
end
theorem toPs_map {α : Type} {f : α → D} {g : α → PyData} (h : ∀ x, (f x).toP = some (g x)) : ∀ l : List α, toPs (l.map f) = some (l.map g)
  | [] => by rw [List.map_nil, toPs]; rfl
  | x :: l => by rw [List.map_cons, toPs, h, toPs_map h l]; rfl
theorem toP_int (i : Int) : (D.int i).toP = some (.int i) := by rw [D.toP]
theorem toP_str (x : Str) : (D.str x).toP = some (.str x) := by rw [D.toP]
theorem toP_lst {ds : List D} {ps : List PyData} (h : toPs ds = some ps) : (D.lst ds).toP = some (.list ps) := by rw [D.toP, h]; rfl
theorem eqvAll_ints : ∀ a b : List Int, PyData.eqvAll (a.map .int) (b.map .int) = decide (a = b)
  | [], [] => by simp [PyData.eqvAll]
  | [], _ :: _ => by simp [PyData.eqvAll]
  | _ :: _, [] => by simp [PyData.eqvAll]
  | x :: a, y :: b => by
    rw [List.map_cons, List.map_cons, PyData.eqvAll, eqvAll_ints a b, PyData.eqv, Bool.eq_iff_iff]
    simp
theorem eqvAll_strs : ∀ a b : List Str, PyData.eqvAll (a.map .str) (b.map .str) = decide (a = b)
  | [], [] => by simp [PyData.eqvAll]
  | [], _ :: _ => by simp [PyData.eqvAll]
  | _ :: _, [] => by simp [PyData.eqvAll]
  | x :: a, y :: b => by
    rw [List.map_cons, List.map_cons, PyData.eqvAll, eqvAll_strs a b, PyData.eqv, Bool.eq_iff_iff]
    simp
theorem lay_ints : ∀ a : List Int, PyData.canLayAll0 (a.map .int) = true
  | [] => by simp [PyData.canLayAll0]
  | x :: a => by rw [List.map_cons, PyData.canLayAll0, PyData.canLay0, lay_ints a]; rfl
theorem depth_ints : ∀ a : List Int, PyData.depthAll (a.map .int) = 0
  | [] => by simp [PyData.depthAll]
  | x :: a => by rw [List.map_cons, PyData.depthAll, PyData.depth, depth_ints a]; rfl
def okS (x : Str) : Prop := PyData.strOk x = true
theorem lay_strs : ∀ a : List Str, (∀ x ∈ a, okS x) → PyData.canLayAll0 (a.map .str) = true
  | [], _ => by simp [PyData.canLayAll0]
  | x :: a, h => by rw [List.map_cons, PyData.canLayAll0, PyData.canLay0, lay_strs a fun y hy => h y (List.mem_cons_of_mem _ hy), h x List.mem_cons_self]; rfl
theorem depth_strs : ∀ a : List Str, PyData.depthAll (a.map .str) = 0
  | [] => by simp [PyData.depthAll]
  | x :: a => by rw [List.map_cons, PyData.depthAll, PyData.depth, depth_strs a]; rfl
theorem shaped_ints (a : List Int) : PySem.SeqAt.shaped (.list (a.map .int)) = true := by
  unfold PySem.SeqAt.shaped
  rw [PyData.canLay0, lay_ints, PyData.depth, depth_ints]; rfl
theorem shaped_strs {a : List Str} (h : ∀ x ∈ a, okS x) : PySem.SeqAt.shaped (.list (a.map .str)) = true := by
  unfold PySem.SeqAt.shaped
  rw [PyData.canLay0, lay_strs a h, PyData.depth, depth_strs]; rfl
theorem deq_dI (a b : List Int) : deq (dI a) (dI b) = some (decide (a = b)) := by
  have h1 : (dI a).toP = some (.list (a.map .int)) := toP_lst (toPs_map toP_int a)
  have h2 : (dI b).toP = some (.list (b.map .int)) := toP_lst (toPs_map toP_int b)
  show (match (dI a).toP, (dI b).toP with | some p, some q => if PySem.SeqAt.shaped p && PySem.SeqAt.shaped q then some (PyData.eqv p q) else none | _, _ => none) = _
  rw [h1, h2]
  simp only [shaped_ints, Bool.and_self, if_true]
  rw [PyData.eqv, eqvAll_ints]
theorem deq_dT {a b : List Str} (ha : ∀ x ∈ a, okS x) (hb : ∀ x ∈ b, okS x) : deq (dT a) (dT b) = some (decide (a = b)) := by
  have h1 : (dT a).toP = some (.list (a.map .str)) := toP_lst (toPs_map toP_str a)
  have h2 : (dT b).toP = some (.list (b.map .str)) := toP_lst (toPs_map toP_str b)
  show (match (dT a).toP, (dT b).toP with | some p, some q => if PySem.SeqAt.shaped p && PySem.SeqAt.shaped q then some (PyData.eqv p q) else none | _, _ => none) = _
  rw [h1, h2]
  simp only [shaped_strs ha, shaped_strs hb, Bool.and_self, if_true]
  rw [PyData.eqv, eqvAll_strs]
theorem gEq_dI (a b : List Int) : gEq (dI a) (dI b) = some (.bl (decide (a = b))) := by unfold gEq; rw [deq_dI]; rfl
theorem gNe_dI (a b : List Int) : gNe (dI a) (dI b) = some (.bl (!decide (a = b))) := by unfold gNe; rw [deq_dI]; rfl
theorem gEq_dT {a b : List Str} (ha : ∀ x ∈ a, okS x) (hb : ∀ x ∈ b, okS x) : gEq (dT a) (dT b) = some (.bl (decide (a = b))) := by unfold gEq; rw [deq_dT ha hb]; rfl
theorem gNe_dT {a b : List Str} (ha : ∀ x ∈ a, okS x) (hb : ∀ x ∈ b, okS x) : gNe (dT a) (dT b) = some (.bl (!decide (a = b))) := by unfold gNe; rw [deq_dT ha hb]; rfl
def Sg (s : Str) : Prop := ∃ c : Nat, s = ⟨#[c]⟩ ∧ 97 ≤ c ∧ c ≤ 122
theorem Sg.ok {s : Str} (h : Sg s) : okS s := by
  obtain ⟨c, rfl, _, h2⟩ := h
  unfold okS PyData.strOk
  simp
  omega
def Tx (t : List Str) : Prop := ∀ x ∈ t, Sg x
theorem Tx.ok {t : List Str} (h : Tx t) : ∀ x ∈ t, okS x := fun x hx => (h x hx).ok
theorem okNil : ∀ x ∈ ([] : List Str), okS x := fun _ h => by cases h
theorem Tx.take {t : List Str} (h : Tx t) (k : Nat) : Tx (t.take k) := fun x hx => h x (List.mem_of_mem_take hx)
theorem Tx.drop {t : List Str} (h : Tx t) (k : Nat) : Tx (t.drop k) := fun x hx => h x (List.mem_of_mem_drop hx)
theorem Tx.append {t u : List Str} (h : Tx t) (h2 : Tx u) : Tx (t ++ u) := fun x hx => (List.mem_append.mp hx).elim (h x) (h2 x)
theorem Tx.set {t : List Str} (h : Tx t) {x : Str} (hx : Sg x) (k : Nat) : Tx (t.set k x) := fun y hy => by
  rcases List.mem_or_eq_of_mem_set hy with hy | rfl
  · exact h y hy
  · exact hx
end MV
namespace MV
open PySem (Str PyData)
abbrev dN (l : List Nat) : D := .lst (l.map fun k : Nat => D.int (k : Int))
theorem dN_dI (l : List Nat) : dN l = dI (l.map fun k : Nat => (k : Int)) := by
  show D.lst _ = D.lst _
  rw [List.map_map]; rfl
theorem cast_inj {a b : List Nat} : (a.map (fun k : Nat => (k : Int)) = b.map fun k : Nat => (k : Int)) ↔ a = b :=
  ⟨fun h => (List.map_inj_right (fun x y h => by omega)).mp h, fun h => by rw [h]⟩
theorem gEq_dN (a b : List Nat) : gEq (dN a) (dN b) = some (.bl (decide (a = b))) := by
  rw [dN_dI, dN_dI, gEq_dI]; simp only [cast_inj]
theorem gNe_dN (a b : List Nat) : gNe (dN a) (dN b) = some (.bl (!decide (a = b))) := by
  rw [dN_dI, dN_dI, gNe_dI]; simp only [cast_inj]
theorem rng0 (n : Nat) : rngD 0 n = (List.range n).map fun k : Nat => D.int (k : Int) := by
  unfold rngD; simp
theorem small_of {i : Int} (h : -1000000 ≤ i) (h2 : i ≤ 1000000) : smallI i = true := decide_eq_true (by omega)
theorem lc_nat {is : List Nat} {tg : D → M Unit} {t : M Bool} {fe : M D} {e : PEnv} (p : Nat → Bool) (g : Nat → D) (l : List Nat) (hl : l.length ≤ LIM)
    (h : ∀ k ∈ l, ∃ e1 e2, tg (.int (k : Int)) e = .ok () e1 ∧ t e1 = .ok (p k) e2 ∧ (p k = true → ∃ e3, fe e2 = .ok (g k) e3 ∧ wipeE is e3 = e) ∧ (p k = false → wipeE is e2 = e)) :
    lcGo is tg t fe (l.map fun k : Nat => D.int (k : Int)) [] e = .ok ((l.filter p).map g) e := by
  have := lc_pure (φ := fun k : Nat => D.int (k : Int)) (p := p) (g := g) l [] (by simpa using hl) h
  simpa using this
theorem asInts_dI (l : List Int) : asInts (l.map .int) = some l := by
  induction l with
  | nil => rfl
  | cons a r ih => rw [List.map_cons, asInts, ih]; rfl
section
variable {α : Type} {a b c d x : α} {l : List α}
@[simp] theorem atI0 : L2.atI (a :: l) 0 = some a := by rw [show (0 : Int) = ((0 : Nat) : Int) from rfl, atI_eq]; rfl
@[simp] theorem atI1 : L2.atI (a :: b :: l) 1 = some b := by rw [show (1 : Int) = ((1 : Nat) : Int) from rfl, atI_eq]; rfl
@[simp] theorem atI2 : L2.atI (a :: b :: c :: l) 2 = some c := by rw [show (2 : Int) = ((2 : Nat) : Int) from rfl, atI_eq]; rfl
@[simp] theorem atI3 : L2.atI (a :: b :: c :: d :: l) 3 = some d := by rw [show (3 : Int) = ((3 : Nat) : Int) from rfl, atI_eq]; rfl
@[simp] theorem atI4 : L2.atI (a :: b :: c :: d :: x :: l) 4 = some x := by rw [show (4 : Int) = ((4 : Nat) : Int) from rfl, atI_eq]; rfl
end
theorem cutA_to1 {α : Type} (l : List α) (k : Nat) : cutA l none (some ((k : Int) + 1)) = l.take (k + 1) := by
  rw [show ((k : Int) + 1) = ((k + 1 : Nat) : Int) by omega, cutA_to]
theorem cutA_mid2 {α : Type} (l : List α) (i j : Nat) : cutA l (some (i : Int)) (some ((i : Int) + (j : Int))) = (l.drop i).take j := by
  rw [show ((i : Int) + (j : Int)) = ((i + j : Nat) : Int) by omega, cutA_mid, show i + j - i = j by omega]
theorem gEq_nT {a : List Str} (ha : ∀ x ∈ a, okS x) : gEq (dT a) (.lst []) = some (.bl (decide (a = []))) := gEq_dT ha okNil
theorem gNe_nT {a : List Str} (ha : ∀ x ∈ a, okS x) : gNe (dT a) (.lst []) = some (.bl (!decide (a = []))) := gNe_dT ha okNil
@[simp] theorem gEq_nn : gEq (.lst []) (.lst []) = some (.bl true) := gEq_dN [] []
@[simp] theorem gNe_nn : gNe (.lst []) (.lst []) = some (.bl false) := gNe_dN [] []
@[simp] theorem filter_no {α : Type} (l : List α) : l.filter (fun _ => false) = [] := by induction l <;> simp_all
@[simp] theorem r_eIsi {T : String} {f : M D} {e : PEnv} : eIsi T f e = rb (f e) fun x e => lift (gIsi T x) e := (rfl)
section
variable {ds : List D} {i : Int} {k : Bool} {x : Str}
@[simp] theorem isi_list {ds : List D} : gIsi "list" (.lst ds) = some (.bl true) := (rfl)
@[simp] theorem isi_int {i : Int} : gIsi "int" (.int i) = some (.bl true) := (rfl)
@[simp] theorem isi_boolI {i : Int} : gIsi "bool" (.int i) = some (.bl false) := (rfl)
@[simp] theorem isi_boolB {b : Bool} : gIsi "bool" (.bl b) = some (.bl true) := (rfl)
@[simp] theorem isi_tup {ds : List D} : gIsi "tuple" (.tup ds) = some (.bl true) := (rfl)
@[simp] theorem isi_str {x : Str} : gIsi "str" (.str x) = some (.bl true) := (rfl)
end
theorem hsz0 : (0 : Nat) ≤ PySem.sizeLine := Nat.zero_le _
@[simp] theorem r_eSlQ {i : Nat} {lo hi : M (Option Int)} {e : PEnv} : eSlQ i lo hi e = ro (lstO (e[i]?)) fun _ => rb (lo e) fun l e => rb (hi e) fun h e => ro (lstO (e[i]?)) fun ds => if ds.all D.sc then .ok (.lst (cutA ds l h)) e else .stuck := by
  unfold eSlQ
  show _ = ro (lstAt i e) _
  cases lstAt i e with
  | none => rfl
  | some ds =>
    show rb (lo e) _ = _
    simp only [ro_some]
    congr 1; funext l e
    show rb (hi e) _ = _
    congr 1; funext h e
    show _ = ro (lstAt i e) _
    cases lstAt i e with
    | none => rfl
    | some ds => rfl
theorem cutA_len {α : Type} (l : List α) (lo hi : Option Int) : (cutA l lo hi).length ≤ l.length := by
  unfold cutA; rw [List.length_take, List.length_drop]; omega
end MV
namespace MV
open PySem PySem.Spec PyProof.Rows L2
def tru : D → Option Bool
  | .non => some false
  | .bl b => some b
  | .int i => some (i != 0)
  | .lst ds => some (!ds.isEmpty)
  | .tup ds => some (!ds.isEmpty)
  | _ => none
section
variable {X : Cx} {cf : Cf} {W : WX} {c : Cls} {n n1 n2 : Bool}
theorem SE.nn {e : Expr} {te : TE} {f : M D} (h : SE X cf W c n e te f) : SE X cf W c false e te f := ⟨h.p, fun R Hs env σ H F wf r Q => by
  have h := h.s R Hs env σ H F wf r Q
  cases q : f env with
  | ok d env' => rw [q] at h; exact fun k => h fun v Hs' H' s r' p nr => k v Hs' H' s r' p fun z => by cases z
  | ex x env' => rw [q] at h; exact h
  | stuck => trivial⟩
def eOrT (a b : M D) : M D := bnd a fun x => bnd (lift (tru x)) fun k => if k then ret x else b
def tTr (f : M D) : M Bool := bnd f fun d => lift (tru d)
end
section
variable {e : PEnv} {fa fb : M D} {b : Bool} {i : Int} {ds : List D}
@[simp] theorem tru_b : tru (.bl b) = some b := (rfl)
@[simp] theorem tru_i : tru (.int i) = some (i != 0) := (rfl)
@[simp] theorem tru_l : tru (.lst ds) = some (!ds.isEmpty) := (rfl)
@[simp] theorem tru_t : tru (.tup ds) = some (!ds.isEmpty) := (rfl)
@[simp] theorem tru_n : tru .non = some false := (rfl)
@[simp] theorem r_tTr : tTr fa e = rb (fa e) fun x e => lift (tru x) e := (rfl)
@[simp] theorem r_eOrT : eOrT fa fb e = rb (fa e) fun x e => rb (lift (tru x) e) fun k e => if k then .ok x e else fb e := by
  show rb (fa e) _ = _
  congr 1; funext x e
  show rb _ _ = _
  congr 1; funext k e; cases k <;> rfl
end
end MV
namespace MV
open PySem PySem.Spec PyProof.Rows L2
def gLR1 : D → Option D
  | .int j => if smallI j && decide (j.toNat ≤ LIM) then some (.lst (rngD 0 j.toNat)) else none
  | _ => none
def gLR2 : D → D → Option D
  | .int i, .int j => if smallI i && smallI j && decide ((j - i).toNat ≤ LIM) then some (.lst (rngD i (j - i).toNat)) else none
  | _, _ => none
section
variable {X : Cx} {cf : Cf} {W : WX} {c : Cls} {n n1 n2 : Bool}
end
section
variable {i j : Int}
@[simp] theorem gLR1_i : gLR1 (.int j) = if smallI j && decide (j.toNat ≤ LIM) then some (.lst (rngD 0 j.toNat)) else none := (rfl)
@[simp] theorem gLR2_i : gLR2 (.int i) (.int j) = if smallI i && smallI j && decide ((j - i).toNat ≤ LIM) then some (.lst (rngD i (j - i).toNat)) else none := (rfl)
end
end MV
namespace MV
open PySem PySem.Spec PyProof.Rows L2
def tyD : D → String
  | .lst _ => "list"
  | .str _ => "str"
  | _ => ""
def eM (T : String) (g : D → List D → Option D) (fo : M D) (fa : M (List D)) : M D := bnd fo fun x => if tyD x == T then bnd fa fun xs => lift (g x xs) else fail
section
variable {X : Cx} {cf : Cf} {W : WX} {c : Cls} {n n1 n2 : Bool}
end
def eqD (z y : D) : Bool := match z.toV, y.toV with
  | some a, some b => eqV a b
  | _, _ => false
def gIndex : D → List D → Option D
  | .lst ds, [y] => if y.sc && ds.all D.sc then (ds.findIdx? fun z => eqD z y).map fun j => .int (j : Nat) else none
  | _, _ => none
section
variable {X : Cx} {cf : Cf} {W : WX} {c : Cls} {n n1 n2 : Bool}
end
section
variable {e : PEnv} {fo : M D} {fa : M (List D)} {T : String} {g : D → List D → Option D} {ds : List D} {y : D}
@[simp] theorem r_eM : eM T g fo fa e = rb (fo e) fun x e => if tyD x == T then rb (fa e) fun xs e => lift (g x xs) e else .stuck := by
  show rb (fo e) _ = _
  congr 1; funext x e; cases tyD x == T <;> rfl
@[simp] theorem tyD_l : tyD (.lst ds) = "list" := (rfl)
@[simp] theorem gIndex_l : gIndex (.lst ds) [y] = if y.sc && ds.all D.sc then (ds.findIdx? fun z => eqD z y).map fun j => .int (j : Nat) else none := (rfl)
end
end MV
namespace MV
open PySem PySem.Spec PyProof.Rows L2
section
variable {K : PySem.W.Frag} {T H H' : Hp}
def NL (T : Hp) : Prop := ∀ a xs, T a ≠ some (.lst xs)
theorem Own.emp_lst (hT : NL T) {F : List Addr} {v : V} {ds : List D} (h : Own K T H F v (.lst ds)) : ∃ p F' xs, v = .ref p ∧ F = p :: F' ∧ H p = some (.lst xs) ∧ OwnL K T H F' xs ds := by
  cases h with
  | leaf h => obtain ⟨a, xs, _, h, _⟩ := h.lst_inv; exact (hT a xs h).elim
  | lst h r => exact ⟨_, _, _, rfl, rfl, h, r⟩
theorem Own.off {p : Addr} {o : HO} {F : List Addr} {v : V} {d : D} (h : Own K T H F v d) (hp : p ∉ F) : Own K T (upd H p o) F v d := h.keep (Ex.refl _) fun a m u e => by
  rw [upd_ne (fun z => hp (by rw [← z]; exact m))]; exact e
theorem OwnL.within (hT : NL T) : ∀ {F : List Addr} {xs : List V} {ds : List D}, OwnL K T H F xs ds → F.Nodup → ∀ (j : Nat) (es : List D), ds[j]? = some (.lst es) →
    ∃ q ys Fq, xs[j]? = some (.ref q) ∧ H q = some (.lst ys) ∧ q ∈ F ∧ OwnL K T H Fq ys es ∧ ∀ ys' es', (∀ H', (∀ a ∈ Fq, H' a = H a) → OwnL K T H' Fq ys' es') → OwnL K T (upd H q (.lst ys')) F xs (ds.set j (.lst es'))
  | _, _, _, .nil, _, j, es, h => by cases h
  | _, v :: vs, d :: ds, .cons (F := F1) (F' := F2) h r, nd, 0, es, hd => by
    cases Option.some.inj hd
    obtain ⟨q, Fq, ys, rfl, rfl, hq, ro⟩ := h.emp_lst hT
    have nd' := List.nodup_append.mp nd
    have nq : q ∉ Fq := (List.nodup_cons.mp nd'.1).1
    refine ⟨q, ys, Fq, rfl, hq, List.mem_append_left _ List.mem_cons_self, ro, fun ys' es' hn => ?_⟩
    exact .cons (.lst upd_same (hn _ fun a m => upd_ne (fun z => nq (by rw [← z]; exact m)))) (r.off fun m => nd'.2.2 q List.mem_cons_self q m rfl)
  | _, v :: vs, d :: ds, .cons (F := F1) (F' := F2) h r, nd, j + 1, es, hd => by
    have nd' := List.nodup_append.mp nd
    obtain ⟨q, ys, Fq, h1, h2, h3, h4, h5⟩ := OwnL.within hT r nd'.2.1 j es hd
    refine ⟨q, ys, Fq, h1, h2, List.mem_append_right _ h3, h4, fun ys' es' hn => ?_⟩
    exact .cons (h.off fun m => nd'.2.2 q m q h3 rfl) (h5 ys' es' hn)
end
section
variable {X : Cx} {cf : Cf} {W : WX} {c : Cls} {n n1 n2 : Bool}
def linL : List D → Bool
  | [] => true
  | d :: ds => if d.sc then linL ds else (match d with | .lst es => es.all D.sc | _ => false) && ds.all D.sc
def lin : D → Bool
  | .lst ds => ds.all D.sc
  | .tup ds => linL ds
  | d => d.sc
def sSetP (i : Nat) (f : M D) : M Fl := bnd f fun d => bnd (lift (if lin d then some d else none)) fun d => fun e => .ok .nx (e.set i (some d))
end
section
variable {e : PEnv} {fi f : M D} {i : Nat} {ds es : List D}
@[simp] theorem r_sSetP : sSetP i f e = rb (f e) fun d e => if lin d then .ok .nx (e.set i (some d)) else .stuck := by
  show rb (f e) _ = _
  congr 1; funext d e; cases h : lin d <;> simp [h]
end
end MV
namespace MV
open PySem PySem.Spec PyProof.Rows L2
def eCallQ (F : List D → FR) (i : Nat) (a : M (List D)) : M D := fun e => match e[i]? with
  | some (some d0) => bnd a (fun ds => frD (F (d0 :: ds))) e
  | _ => .stuck
def eIxQ (i : Nat) (f : M D) : M D := fun e => match lstAt i e with
  | none => .stuck
  | some ds => bnd f (fun k => match k with
    | .int z => lift ((atI ds z).bind fun d => if d.sc then some d else none)
    | _ => fail) e
def eLenQ (i : Nat) : M D := fun e => match lstAt i e with
  | some ds => .ok (.int ds.length) e
  | none => .stuck
section
variable {X : Cx} {cf : Cf} {W : WX} {c : Cls} {n n1 n2 : Bool}
end
section
variable {P : Program} {w : World} {K : PySem.W.Frag} {mg : Str → Option Value} {base : Heap}
end
section
variable {e : PEnv} {f : M D} {i : Nat} {r : M (List D)}
def someO (o : Option (Option D)) : Option D := match o with
  | some (some d) => some d
  | _ => none
@[simp] theorem someO_some {d : D} : someO (some (some d)) = some d := (rfl)
@[simp] theorem r_eCallQ {F : List D → FR} : eCallQ F i r e = ro (someO (e[i]?)) fun d0 => rb (r e) fun ds e => frR (F (d0 :: ds)) (fun d _ => .ok d e) fun x _ => .ex x e := by
  unfold eCallQ someO
  cases e[i]? with
  | none => rfl
  | some o => cases o <;> rfl
@[simp] theorem r_eIxQ : eIxQ i f e = ro (lstO (e[i]?)) fun ds => rb (f e) fun k e => ro (asInt k) fun z => ro (L2.atI ds z) fun d => if d.sc then .ok d e else .stuck := by
  unfold eIxQ
  show _ = ro (lstAt i e) _
  cases lstAt i e with
  | none => rfl
  | some ds =>
    show rb (f e) _ = _
    simp only [ro_some]
    congr 1; funext k e
    cases k <;> first | rfl | (simp only [asInt_int, ro_some]; cases h : L2.atI ds _ with | none => rfl | some d => cases h2 : d.sc <;> simp [h2])
@[simp] theorem r_eLenQ : eLenQ i e = ro (lstO (e[i]?)) fun ds => .ok (.int ds.length) e := by
  unfold eLenQ
  show _ = ro (lstAt i e) _
  cases lstAt i e <;> rfl
end
end MV
namespace MV
open PySem PySem.Spec PyProof.Rows L2
section
variable {X : Cx} {pp : List (Addr × Obj)} {σ : L2.St} {H : Hp} {s : Shared}
end
section
variable {X : Cx} {x n : Str} {c : Value} {i : Nat} {body suite : List Stmt} {b₀ : Stmt} {np pos pos' : Pos} {tb : WX → TS} {ts : Addr → Value → TS} {Wo : WX}
end
abbrev veMro : List Value := [.type "ValueError", .type "Exception", .type "BaseException", .type "object"]
structure XCls (K : PySem.W.Frag) (mg : Str → Option Value) (c : Str) (C : Addr) : Prop where
  n : PySem.W.nsIn K mainGlobals c = some (some (.ref C))
  g : mg c = some (.ref C)
  x : PySem.W.excIn K C veMro "ValueError.__new__" = true
  k : PySem.W.keepIn K (.ref C) = true
  b : PySem.W.subIn K (.ref C) (.type "BaseException") = some true
  t : PySem.W.typeIn K (.ref C) = some (.type "type")
  d : PySem.W.hasDictIn K C = true
  s : PySem.W.subIn K (.ref C) (.ref C) = some true
theorem XCls.cv {K : PySem.W.Frag} {mg : Str → Option Value} {c : Str} {C : Addr} (h : XCls K mg c C) : cvK K c = .ref C := by unfold cvK; rw [h.n]
def sRaise (c : Str) : M Fl := fun e => .ex c e
section
variable {X : Cx} {cf : Cf} {W : WX}
theorem ss_raise {x m : Str} {C : Addr} {j : Nat} {p p2 pos pos' : Pos} (hK : cf.K = X.K) (hcv : cf.cv = cvK cf.K) (hc : X.calm = true) (tk : L2N.Takes X W) (T : XCls X.K X.mg x C) (hg : Gl X x := by rfl) (hdb : (x == ("__debug__" : Str)) = false := by decide) :
    SS X cf W (.Raise (some (.Call (.Name x p) [.Constant (.str m) j p2] [] pos')) none pos) (sRaise x) :=
  ⟨_, L2N.ps_raise hc tk (L2N.pmk_own PySem.F.excBase_ValueError T.x T.g T.k (raises_own T.b T.t) hg hdb), fun R Hs env σ H F wf r D hp => by
    have := hp Hs σ H F wf (Ex.refl _) r
    rw [hcv, hK, T.cv] at this
    exact this⟩
def sTryK (cs : List Str) (i j : Nat) (b : M Fl) : M Fl := fun e => match b e with
  | .ex c e' => if c ∈ cs ∧ j < e'.length then .ok .nx ((e'.set i (some (.exc c))).set j none) else .stuck
  | r => r
end
end MV
namespace MV
open PySem PySem.Spec PyProof.Rows L2
def excSub (c T : Str) : Bool := c == T || T == (Str.ofString "CoverError") || T == (Str.ofString "ValueError")
def gIsX (cs : List Str) (T : Str) : D → Option D
  | .exc c => if c ∈ cs then some (.bl (excSub c T)) else none
  | _ => none
def gIsXT (cs Ts : List Str) : D → Option D
  | .exc c => if c ∈ cs then some (.bl (Ts.any (excSub c))) else none
  | _ => none
section
variable {X : Cx} {cf : Cf} {W : WX} {c ca : Cls} {n n1 : Bool} {a : Expr} {ta : TE} {fa : M D} {pos : Pos}
end
section
variable {e : PEnv} {b : M Fl} {f : M D} {i j : Nat} {cs Ts : List Str} {c T : Str}
@[simp] theorem r_sRaise : sRaise c e = .ex c e := (rfl)
def tryR (cs : List Str) (i j : Nat) (r : Res Fl) : Res Fl := match r with
  | .ex c e' => if c ∈ cs ∧ j < e'.length then .ok .nx ((e'.set i (some (.exc c))).set j none) else .stuck
  | r => r
@[simp] theorem tryR_ok {f : Fl} : tryR cs i j (.ok f e) = .ok f e := (rfl)
@[simp] theorem tryR_ex : tryR cs i j (.ex c e) = if c ∈ cs ∧ j < e.length then .ok .nx ((e.set i (some (.exc c))).set j none) else .stuck := (rfl)
@[simp] theorem r_sTryK : sTryK cs i j b e = tryR cs i j (b e) := (rfl)
@[simp] theorem gIsX_x : gIsX cs T (.exc c) = if c ∈ cs then some (.bl (excSub c T)) else none := (rfl)
@[simp] theorem gIsXT_x : gIsXT cs Ts (.exc c) = if c ∈ cs then some (.bl (Ts.any (excSub c))) else none := (rfl)
end
end MV
namespace MV
open PySem PySem.Spec PyProof.Rows L2
def gCount : D → List D → Option D
  | .lst ds, [y] => if y.sc && ds.all D.sc then some (.int (ds.countP fun z => eqD z y : Nat)) else none
  | _, _ => none
def gAny : List D → Option D
  | [.lst ds] => if ds.all fun x => (asB x).isSome then some (.bl (ds.any fun x => asB x == some true)) else none
  | _ => none
def gIsiT (Ts : List String) (d : D) : Option D := match d.ty with
  | some a => some (.bl (Ts.any (isiB a)))
  | none => none
section
variable {X : Cx} {cf : Cf} {W : WX} {c ca : Cls} {n n1 n2 : Bool}
end
section
variable {e : PEnv} {f : M D} {r : M (List D)} {tg : D → M Unit} {i j : Nat}
@[simp] theorem r_sUnp : sUnp f tg e = rb (f e) fun d e => rb (tg d e) fun _ e => .ok .nx e := (rfl)
end
section
variable {ds : List D} {y : D} {Ts : List String} {i : Int} {x : Str} {b : Bool}
@[simp] theorem gCount_l : gCount (.lst ds) [y] = if y.sc && ds.all D.sc then some (.int (ds.countP fun z => eqD z y : Nat)) else none := (rfl)
@[simp] theorem gAny_l : gAny [.lst ds] = if ds.all fun x => (asB x).isSome then some (.bl (ds.any fun x => asB x == some true)) else none := (rfl)
@[simp] theorem gIsiT_i : gIsiT Ts (.int i) = some (.bl (Ts.any (isiB "int"))) := (rfl)
@[simp] theorem gIsiT_s : gIsiT Ts (.str x) = some (.bl (Ts.any (isiB "str"))) := (rfl)
@[simp] theorem gIsiT_b : gIsiT Ts (.bl b) = some (.bl (Ts.any (isiB "bool"))) := (rfl)
@[simp] theorem gIsiT_l : gIsiT Ts (.lst ds) = some (.bl (Ts.any (isiB "list"))) := (rfl)
@[simp] theorem gIsiT_t : gIsiT Ts (.tup ds) = some (.bl (Ts.any (isiB "tuple"))) := (rfl)
@[simp] theorem gIsiT_n : gIsiT Ts .non = some (.bl (Ts.any (isiB "NoneType"))) := (rfl)
end
end MV
namespace MV
open PySem PySem.Spec PyProof.Rows L2
def ePopW (i : Nat) (f : M D) : M D := fun e => match lstAt i e with
  | none => .stuck
  | some _ => bnd f (fun k => fun e => match lstAt i e, k with
    | some ds, .int z => match ixN ds.length z with
      | some j => match ds[j]? with
        | some d => if ds.length ≤ LIM then .ok d (e.set i (some (.lst (ds.eraseIdx j)))) else .stuck
        | none => .stuck
      | none => .stuck
    | _, _ => .stuck) e
def eLenW (i : Nat) : M D := fun e => match lstAt i e with
  | some ds => .ok (.int ds.length) e
  | none => .stuck
def sRetW (i : Nat) : M Fl := fun e => match lstAt i e with
  | some ds => .ok (.rt (.lst ds)) (e.set i none)
  | none => .stuck
theorem RpL.eraseIdx {K : PySem.W.Frag} {x : Bool} {G : Hp} : ∀ {xs : List V} {ds : List D} (j : Nat), RpL K x G xs ds → RpL K x G (xs.eraseIdx j) (ds.eraseIdx j)
  | _, _, j, .nil => by simp; exact .nil
  | _, _, 0, .cons h r => r
  | _, _, j + 1, .cons h r => .cons h (RpL.eraseIdx j r)
section
variable {X : Cx} {cf : Cf} {W : WX} {c : Cls} {n n1 n2 : Bool}
theorem stp_w {R : Rs} {Hs H : Hp} {env : PEnv} {σ : L2.St} {F : Nat → List Addr} {wf : List Addr} {i : Nat} {p : Addr} {o : HO} {d : D} (r : Rel cf R Hs env σ H F wf) (hk : cf.kd i = .W) (hF : F i = [p]) : Stp cf wf env Hs H (env.set i (some d)) Hs (upd H p o) := by
  have hp : p ∈ F i := by rw [hF]; exact List.mem_singleton.mpr rfl
  refine ⟨fun a h => ?_, Ex.refl _, fun a u hw h => ?_, fun _ _ => rfl, fun j hj => ?_⟩
  · by_cases e : a = p
    · subst e; rw [upd_same]; exact fun z => by cases z
    · rw [upd_ne e]; exact h
  · rw [upd_ne (fun e => by subst e; exact hw (r.volw i hk _ hp))]; exact h
  · rw [List.getElem?_set_ne (fun e => by subst e; exact hj hk)]
theorem se_popW {i : Nat} {o e : Expr} {te : TE} {f : M D} {apos cpos : Pos} (hK : cf.K = X.K) (po : PE X o (tVar i)) (hk : cf.kd i = .W) (h : SE X cf W c n e te f)
    (hbase : attributeBase o "pop" X.env (eval o X.env) = eval o X.env := by rfl)
    (hfew : ((backTo cpos (starEach [e] X.env)).all (fun x => !x.1) && (backToKw cpos (keywordEach [] X.env)).all (fun x => x.1.isSome) && decide ([e].length + ([] : List Keyword).length + (if ([] : List Keyword).isEmpty then 0 else 1) < 30)) = true := by rfl)
    (hline : (apos.endLine == cpos.line) = true := by rfl) (hs : starEach [e] X.env = (false, eval e X.env) :: starEach [] X.env := by rfl) (hplain : (backTo cpos (starEach [] X.env)).any (·.1) = false := by rfl) :
    SE X cf W .V true (.Call (.Attribute o "pop" apos) [e] [] cpos) (tBM cf.K "list" rPopAt (tVar i) (tCons te tNil)) (ePopW i f) := by
  rw [hK]
  refine ⟨pe_bm PySem.F.plainAttrs_list PySem.F.slot_list_pop PySem.F.type_list_pop mt_popAt po (pa_cons h.p pa_nil hs) hbase hfew hline hs hplain, Sd.mk (fun R Hs env σ H F wf r d env' q Q k => ?_) (fun R Hs env σ H F wf r x env' q Q k => ?_)⟩
  · unfold ePopW at q
    cases q0 : lstAt i env with
    | none => simp only [q0] at q; cases q
    | some ds0 =>
      simp only [q0] at q
      obtain ⟨p0, xs0, dz, _, a1, a2, a3, a4, a5⟩ := own_listW r hk (lstAt_some q0)
      refine ⟨.ref p0, a1, .inl ⟨rfl, xs0, .inl (.inl a3)⟩, ?_⟩
      obtain ⟨kd, env1, q1, q2⟩ := bnd_ok q
      refine h.s.ok r q1 fun v Hs1 H1 s1 r1 p1 _ => ?_
      cases q3 : lstAt i env1 with
      | none => simp only [q3] at q2; cases q2
      | some ds =>
        simp only [q3] at q2
        cases kd with
        | int z =>
          simp only at q2
          cases qj : ixN ds.length z with
          | none => simp only [qj] at q2; cases q2
          | some j =>
            simp only [qj] at q2
            cases qd : ds[j]? with
            | none => simp only [qd] at q2; cases q2
            | some dj =>
              simp only [qd] at q2
              split at q2
              · rename_i hlim
                cases q2
                obtain ⟨p, xs, ds', e1, h1, h2, h3, h4, h5⟩ := own_listW r1 hk (lstAt_some q3)
                cases e1
                have ep : p = p0 := by rw [h1] at a1; cases a1; rfl
                subst ep
                obtain ⟨sq, jl, b1, b2⟩ := ixN_seq qj
                obtain ⟨w, hw, hr⟩ := h5.get qd
                have hsc : d.sc = true := List.all_eq_true.mp h4 d (List.mem_of_getElem? qd)
                have hL : (LIM : Nat) = 100000 := rfl
                refine ⟨p, xs, z, j, w, rfl, by rw [p1.int_inv], h3, by omega, by omega, by rw [h5.length]; exact sq, hw, ?_⟩
                have r2 := r1.mut (i := i) (p := p) (o' := .lst (xs.eraseIdx j)) (v := .ref p) (d0 := .lst ds) (d' := .lst (ds.eraseIdx j)) (by rw [h2]; exact List.mem_cons_self) (lstAt_some q3) h1 (by
                  rw [hk, h2]
                  refine ⟨p, _, _, rfl, rfl, rfl, upd_same, ?_, h5.eraseIdx j⟩
                  rw [List.all_eq_true]
                  intro y hy
                  exact List.all_eq_true.mp h4 y (List.mem_of_mem_eraseIdx hy))
                exact k w Hs1 _ (s1.trans (stp_w r1 hk h2)) r2 (hr.sc_any hsc _ _) fun _ _ => hr.sc_any hsc _ _
              · cases q2
        | _ => cases q2
  · unfold ePopW at q
    cases q0 : lstAt i env with
    | none => simp only [q0] at q; cases q
    | some ds0 =>
      simp only [q0] at q
      obtain ⟨p0, xs0, dz, _, a1, a2, a3, a4, a5⟩ := own_listW r hk (lstAt_some q0)
      refine ⟨.ref p0, a1, .inl ⟨rfl, xs0, .inl (.inl a3)⟩, ?_⟩
      rcases bnd_ex q with q | ⟨kd, env1, q1, q2⟩
      · exact h.s.exn r q k
      · exfalso
        cases q3 : lstAt i env1 with
        | none => simp only [q3] at q2; cases q2
        | some ds =>
          simp only [q3] at q2
          cases kd with
          | int z =>
            simp only at q2
            split at q2
            · split at q2
              · split at q2 <;> cases q2
              · cases q2
            · cases q2
          | _ => cases q2
theorem se_lenW {i : Nat} {o : Expr} {p pos : Pos} (hK : cf.K = X.K) (hm : X.mg "len" = none) (po : PE X o (tVar i)) (hk : cf.kd i = .W) (hg : Gl X "len" := by rfl) (he : starEach [o] X.env = (false, eval o X.env) :: starEach [] X.env := by rfl) (hpl : (backTo pos (starEach [] X.env)).any (·.1) = false := by rfl) :
    SE X cf W .V true (.Call (.Name "len" p) [o] [] pos) (tCB (fun xs H Q => ∃ x n, xs = [x] ∧ LenV cf.K x H n ∧ Q (.int n) H) (tCons (tVar i) tNil)) (eLenW i) := by
  rw [hK]
  refine ⟨pe_callB call_len hg hm PySem.boot_len (pa_cons po pa_nil he) (by decide) (by decide) he hpl, Sd.mk (fun R Hs env σ H F wf r d env' q Q k => ?_) (fun R Hs env σ H F wf r x env' q Q k => ?_)⟩
  · unfold eLenW at q
    split at q
    · rename_i ds q0
      cases q
      obtain ⟨p0, xs0, dz, e0, a1, a2, a3, a4, a5⟩ := own_listW r hk (lstAt_some q0)
      cases e0
      refine ⟨.ref p0, a1, .ref p0, xs0.length, rfl, .inl ⟨xs0, .inl (.inl a3), rfl⟩, ?_⟩
      rw [a5.length]
      exact k _ Hs H Stp.refl r (.int _) fun _ _ => .int _
    · cases q
  · unfold eLenW at q
    split at q <;> cases q
end
section
variable {e : PEnv} {f : M D} {i : Nat} {z : Str}
@[simp] theorem r_ePopW : ePopW i f e = ro (lstO (e[i]?)) fun _ => rb (f e) fun k e => ro (lstO (e[i]?)) fun ds => ro (asInt k) fun z => ro (L2.ixN ds.length z) fun j => ro (ds[j]?) fun d => if ds.length ≤ LIM then .ok d (e.set i (some (.lst (ds.eraseIdx j)))) else .stuck := by
  unfold ePopW
  show _ = ro (lstAt i e) _
  cases lstAt i e with
  | none => rfl
  | some ds =>
    show rb (f e) _ = _
    simp only [ro_some]
    congr 1; funext k e
    show _ = ro (lstAt i e) _
    cases lstAt i e with
    | none => rfl
    | some ds =>
      simp only [ro_some]
      cases k <;> first | rfl | (simp only [asInt_int, ro_some]; cases L2.ixN ds.length _ with | none => rfl | some j => (simp only [ro_some]; cases ds[j]? <;> rfl))
@[simp] theorem r_eLenW : eLenW i e = ro (lstO (e[i]?)) fun ds => .ok (.int ds.length) e := by
  unfold eLenW
  show _ = ro (lstAt i e) _
  cases lstAt i e <;> rfl
@[simp] theorem r_sRetW : sRetW i e = ro (lstO (e[i]?)) fun ds => .ok (.rt (.lst ds)) (e.set i none) := by
  unfold sRetW
  show _ = ro (lstAt i e) _
  cases lstAt i e <;> rfl
@[simp] theorem gList1_s : gList1 [.str z] = if z.length ≤ LIM then some (.lst (chD z)) else none := (rfl)
end
end MV
namespace MV
open PySem PySem.Spec PyProof.Rows L2
def SdOw (cf : Cf) (W : WX) (te : TE) (f : M D) : Prop :=
  ∀ (R : Rs) (Hs : Hp) (env : PEnv) (σ : L2.St) (H : Hp) (F : Nat → List Addr) (wf : List Addr), Rel cf R Hs env σ H F wf → ∀ Q : VK,
    match f env with
    | .ok d env' => (∀ v Hs' H' G, Stp cf wf env Hs H env' Hs' H' → Rel cf R Hs' env' σ H' F wf → Own cf.K (TH (rs (rm Hs' G) H)) H' G v d → G.Nodup → (∀ a ∈ G, H a = none ∧ H' a ≠ none) → Q v H') → te σ H Q
    | .ex x env' => (∀ Hs' H', Stp cf wf env Hs H env' Hs' H' → Rel cf R Hs' env' σ H' F wf → W (cf.cv x) none σ H') → te σ H Q
    | .stuck => True
def SdAw (cf : Cf) (W : WX) (ta : TA) (f : M (List D)) : Prop :=
  ∀ (R : Rs) (Hs : Hp) (env : PEnv) (σ : L2.St) (H : Hp) (F : Nat → List Addr) (wf : List Addr), Rel cf R Hs env σ H F wf → ∀ Q : List V → Hp → Prop,
    match f env with
    | .ok ds env' => (∀ vs Hs' H' G, Stp cf wf env Hs H env' Hs' H' → Rel cf R Hs' env' σ H' F wf → OwnL cf.K emp H' G vs ds → G.Nodup → (∀ a ∈ G, H a = none ∧ H' a ≠ none) → Q vs H') → ta σ H Q
    | .ex x env' => (∀ Hs' H', Stp cf wf env Hs H env' Hs' H' → Rel cf R Hs' env' σ H' F wf → W (cf.cv x) none σ H') → ta σ H Q
    | .stuck => True
structure SEO (X : Cx) (cf : Cf) (W : WX) (e : Expr) (t : TE) (f : M D) : Prop where
  p : PE X e t
  s : SdOw cf W t f
structure SAO (X : Cx) (cf : Cf) (W : WX) (es : List Expr) (t : TA) (f : M (List D)) : Prop where
  p : PA X es t
  s : SdAw cf W t f
section
variable {X : Cx} {cf : Cf} {W : WX} {c : Cls} {n n1 n2 : Bool} {i : Nat}
def gLstO (ds : List D) : Option D := if ds.length ≤ LIM then some (.lst ds) else none
def gTupO (ds : List D) : Option D := if ds.length ≤ LIM then some (.tup ds) else none
end
section
variable {ds : List D}
@[simp] theorem gLstO_ : gLstO ds = if ds.length ≤ LIM then some (.lst ds) else none := (rfl)
@[simp] theorem gTupO_ : gTupO ds = if ds.length ≤ LIM then some (.tup ds) else none := (rfl)
end
end MV
namespace MV
open PySem PySem.Spec PyProof.Rows L2
section
variable {X : Cx} {cf : Cf} {W : WX}
end
end MV
namespace MV
open PySem PySem.Spec PyProof.Rows L2
section
variable {P : Program} {w : World} {A : Around} {E : Value → Shared → Prop} {s : Shared}
set_option maxHeartbeats 8000000 in
theorem call_set_lstI {l : Addr} {items : Array Value} (ns : List Int) {Q : Value → Shared → Prop} (hh : A.handled = none) (hl : s.heap.IsList l items) (hit : IntsAre items.toList ns) (hb : ns.length + 1 < scanBound)
    (h : ∀ (h' : Heap) (tk c : Nat), SetR w h' s.heap.objs.size (fun j => decide (j ∈ ns)) c → c ≤ ns.length → (∀ b o, s.heap.get? b = some o → h'.get? b = some o) → Q (.ref s.heap.objs.size) { s with heap := h', toks := tk }) :
    wpAny (model P w) A (call (.type "set") [.ref l]) Q E s := by
  have hisz : items.size = ns.length := by
    have q := IntsAre.length hit
    rw [Array.length_toList] at q
    exact q
  obtain ⟨c, tl, hmro⟩ := F.called_set.mro
  have hmade := F.called_set.made
  have hsub := F.called_set.sub
  refine wpAny_call (codeAny_of_tree ?_)
  show wpAny _ _ (callAny (.type "set") _) _ _ _
  refine wpAny_pure ⟨Code.quiet_builtin _ (by decide +kernel), codeAny_builtin F.entry_type_call ?_⟩
  rw [Around.under_plain (weight_type_call_type "set" [.ref l] []) rfl]
  have h1 := F.called_set.notType
  have h2 := F.called_set.canCreate
  have hct := F.typeCall_set_1 (.ref l)
  repeat (any_goals (first | assumption | wp_step))
  refine codeAny_mono (code_set_led1 (.ref l) (E := E) (Q₁ := fun obj s₁ => obj = .ref s.heap.objs.size ∧ s₁ = { s with heap := s.heap.push { cls := .type "set", dict := none, data := .set #[] 0 (.fresh 0 0 (!w.params.followText "set-order")) } }) ⟨rfl, rfl⟩) fun r s₁ hr => ?_
  cases r with
  | error e => exact hr
  | ok fl =>
    cases fl with
    | ret obj =>
      obtain ⟨rfl, rfl⟩ := hr
      have hS : (s.heap.push { cls := .type "set", dict := none, data := .set #[] 0 (.fresh 0 0 (!w.params.followText "set-order")) }).get? s.heap.objs.size = some { cls := .type "set", dict := none, data := .set #[] 0 (.fresh 0 0 (!w.params.followText "set-order")) } := Heap.get?_push_size _ rfl
      have hT : Shared.TypeIs { s with heap := s.heap.push { cls := .type "set", dict := none, data := .set #[] 0 (.fresh 0 0 (!w.params.followText "set-order")) } } (.ref s.heap.objs.size) "set" := ⟨_, hS, rfl⟩
      have hli := F.called_set.init.lookup
      have hbi := F.called_set.init.bind (.ref s.heap.objs.size)
      repeat (any_goals (first | assumption | wp_step))
      refine codeAny_mono (codeAny_call_builtin (R := wants (fun r s₂ => r = .none ∧ ∃ h' tk c, s₂ = { s with heap := h', toks := tk } ∧ SetR w h' s.heap.objs.size (fun j => decide (j ∈ ns)) c ∧ c ≤ ns.length ∧
          (∀ b o, s.heap.get? b = some o → h'.get? b = some o)) E) F.called_set.init.plain F.entry_set_init (check_set_init_1 hT ?_)) fun r₂ s₂ hr₂ => ?_
      · obtain ⟨ol, hol, hcl, nl, hdl⟩ := hl
        obtain ⟨ocls, odict, odata, oslots⟩ := ol
        simp only at hcl hdl
        subst hcl; subst hdl
        have hol' : (s.heap.push { cls := .type "set", dict := none, data := .set #[] 0 (.fresh 0 0 (!w.params.followText "set-order")) }).get? l = some { cls := .type "list", dict := odict, data := .seq items nl, slots := oslots } := Heap.get?_push_of_some _ hol
        have hsls := F.sub_list_set
        have hslf := F.sub_list_frozenset
        have hne : (Value.type "list" == Value.type "dict") = false := by decide
        have hl1 : (s.heap.push { cls := .type "set", dict := none, data := .set #[] 0 (.fresh 0 0 (!w.params.followText "set-order")) }).IsList l items := ⟨_, hol', rfl, nl, rfl⟩
        unfold Builtin.«set.__init__» noKeywords Builtin.Frozenset.updateFrom
        generalize hPI : pyIter = PI
        wp_walk
        subst hPI
        refine wpAny_pyIter_list hl1 ?_
        refine wpAny_bind (wpAny_runValue ?_)
        have hlS : l < s.heap.objs.size := Heap.lt_size hol
        have hh3 : A.in1.in1.in1.handled = none := by simp [hh]
        have hneI : l ≠ (s.heap.push { cls := .type "set", dict := none, data := .set #[] 0 (.fresh 0 0 (!w.params.followText "set-order")) }).objs.size := by
          rw [Heap.size_push]; exact Nat.ne_of_lt (Nat.lt_succ_of_lt hlS)
        have hSf : s.heap.objs.size ∉ [(s.heap.push { cls := .type "set", dict := none, data := .set #[] 0 (.fresh 0 0 (!w.params.followText "set-order")) }).objs.size, l] := by
          rw [Heap.size_push]; simp only [List.mem_cons, List.mem_singleton, List.not_mem_nil, or_false, not_or]
          exact ⟨Nat.ne_of_lt (Nat.lt_succ_self _), Nat.ne_of_gt hlS⟩
        have hval : ∀ (i : Nat) (v : Value), items[i]? = some v → ∃ k t, ns[i]? = some k ∧ v = .int k t := fun i v hv => by
          have hi : i < ns.length := by rw [← hisz]; exact (Array.getElem?_eq_some_iff.mp hv).1
          obtain ⟨t, e⟩ := PyProof.Rows.IntsAre.int_at hit i v (by rw [Array.getElem?_toList]; exact hv)
          refine ⟨ns[i], t, List.getElem?_eq_getElem hi, ?_⟩
          rw [e, List.getD_eq_getElem?_getD, List.getElem?_eq_getElem hi] <;> rfl
        refine set_update_ints ((Walks.list hh3 _ l hneI items).toS) s.heap.objs.size
          hSf ns hisz hb hval (items.size - 0) 0 _ (by omega) (Nat.zero_le _)
          ⟨⟨_, Heap.get?_push_size _ rfl, rfl, rfl⟩, (hl1.push _)⟩ ?hS0 ?hR
        case hS0 =>
          have hget : ((s.heap.push { cls := .type "set", dict := none, data := .set #[] 0 (.fresh 0 0 (!w.params.followText "set-order")) }).push { cls := .type "list_iterator", data := .fields #[.ref l, .int 0 0] }).get? s.heap.objs.size
              = some { cls := .type "set", dict := none, data := .set #[] 0 (.fresh 0 0 (!w.params.followText "set-order")) } := Heap.get?_push_of_some _ hS
          exact ⟨0, Nat.le_refl 0, setR_new_at hget⟩
        case hR =>
          intro s' c' hm hc' hS'
          obtain ⟨h', g2, d', tk', os'⟩ := s'
          have eg : g2 = s.gens := hm.gens
          have ed : d' = s.drawn := hm.drawn
          have eo : os' = s.os := hm.os
          subst eg; subst ed; subst eo
          show wpAny _ _ _ _ _ _
          refine wpAny_pure ?_
          show wpAny _ _ (PySem.ret Value.none) _ _ _
          rw [hisz] at hc'
          refine wpAny_pure ⟨rfl, h', tk', c', rfl, hS', hc', fun b o e => ?_⟩
          have hb0 : b < s.heap.objs.size := Heap.lt_size e
          have hb1 : b ≠ s.heap.objs.size := Nat.ne_of_lt hb0
          have hb2 : b ≠ (s.heap.push { cls := .type "set", dict := none, data := .set #[] 0 (.fresh 0 0 (!w.params.followText "set-order")) }).objs.size := by
            rw [Heap.size_push]; exact Nat.ne_of_lt (Nat.lt_succ_of_lt hb0)
          exact hm.heap b o (by simp only [List.mem_cons, List.mem_singleton, List.not_mem_nil, or_false, not_or]; exact ⟨hb1, hb2⟩) (Heap.get?_push_of_some _ (Heap.get?_push_of_some _ e))
      · cases r₂ with
        | error e => exact hr₂
        | ok fl₂ =>
          cases fl₂ with
          | ret r =>
            obtain ⟨rfl, h', tk, c', rfl, hS', hc', hk'⟩ := hr₂
            repeat (any_goals (first | assumption | wp_step))
            exact h _ _ _ hS' hc' hk'
          | _ => exact hr₂.elim
    | _ => exact hr.elim
end
section
variable {X : Cx}
end
end MV
namespace MV
open PySem PySem.Spec PyProof.Rows L2
def insD (k : Int) : List Int → List Int
  | [] => [k]
  | x :: r => if k < x then k :: x :: r else if k = x then x :: r else x :: insD k r
def dsI (ns : List Int) : List Int := ns.foldr insD []
def srtI (ns : List Int) : List Int := ns.mergeSort fun a b => decide (a ≤ b)
def keysI : List (Key × D) → Option (List Int)
  | [] => some []
  | (.inl i, _) :: r => (keysI r).map (i :: ·)
  | _ :: _ => none
def gSorted : List D → Option D
  | [.lst ds] => (asInts ds).map fun ns => .lst ((srtI ns).map .int)
  | [.dic kvs] => (keysI kvs).map fun ns => .lst ((srtI ns).map .int)
  | _ => none
def gSortSet : List D → Option D
  | [.lst ds] => match asInts ds with
    | some ns => if ns.length ≤ 4000 then some (.lst ((dsI ns).map .int)) else none
    | none => none
  | _ => none
theorem Rp.dic_invX {K : PySem.W.Frag} {x : Bool} {G : Hp} {v : V} {kvs : List (Key × D)} (h : Rp K x G v (.dic kvs)) : ∃ a kvs', v = .ref a ∧ DqK x G a kvs' ∧ kvs'.map (·.1) = kvs.map (·.1) ∧ RpL K x G (kvs'.map (·.2)) (kvs.map (·.2)) := by
  generalize e : D.dic kvs = d at h
  cases h with
  | sc h => subst e; cases h
  | dic h n r =>
    cases e
    rename_i a ks vs ds
    have l2 : ks.length = ds.length := n.trans r.length
    refine ⟨a, _, rfl, h, ?_, ?_⟩
    · rw [List.map_fst_zip (by omega), List.map_fst_zip (by omega)]
    · rw [List.map_snd_zip (by omega), List.map_snd_zip (by omega)]; exact r
  | _ => cases e
theorem Rp.dic_inv {K : PySem.W.Frag} {G : Hp} {v : V} {kvs : List (Key × D)} (h : Rp K true G v (.dic kvs)) : ∃ a kvs', v = .ref a ∧ G a = some (.dK kvs') ∧ kvs'.map (·.1) = kvs.map (·.1) ∧ RpL K true G (kvs'.map (·.2)) (kvs.map (·.2)) := h.dic_invX
theorem Rp.dit_inv {K : PySem.W.Frag} {x : Bool} {G : Hp} {v : V} {kvs : List (List Key × D)} (h : Rp K x G v (.dit kvs)) : ∃ a kvs', v = .ref a ∧ Rd G a (.dT kvs') ∧ kvs'.map (·.1) = kvs.map (·.1) ∧ RpL K x G (kvs'.map (·.2)) (kvs.map (·.2)) := by
  generalize e : D.dit kvs = d at h
  cases h with
  | sc h => subst e; cases h
  | dit h n r =>
    cases e
    rename_i a ks vs ds
    have l2 : ks.length = ds.length := n.trans r.length
    refine ⟨a, _, rfl, h, ?_, ?_⟩
    · rw [List.map_fst_zip (by omega), List.map_fst_zip (by omega)]
    · rw [List.map_snd_zip (by omega), List.map_snd_zip (by omega)]; exact r
  | _ => cases e
theorem zip_fs {α β : Type} (l : List (α × β)) : (l.map (·.1)).zip (l.map (·.2)) = l := by
  induction l with
  | nil => rfl
  | cons p r ih => simp [ih]
theorem Rp.dic_mk {K : PySem.W.Frag} {x : Bool} {G : Hp} {a : Addr} {kvs' : List (Key × V)} {kvs : List (Key × D)} (h : DqK x G a kvs') (h1 : kvs'.map (·.1) = kvs.map (·.1)) (h2 : RpL K x G (kvs'.map (·.2)) (kvs.map (·.2))) : Rp K x G (.ref a) (.dic kvs) := by
  have := Rp.dic (K := K) (x := x) (G := G) (a := a) (ks := kvs.map (·.1)) (vs := kvs'.map (·.2)) (ds := kvs.map (·.2)) (by rw [← h1, zip_fs]; exact h) (by rw [← h1, List.length_map, List.length_map]) h2
  rw [zip_fs] at this
  exact this
section
variable {X : Cx} {cf : Cf} {W : WX} {c : Cls} {n n1 n2 : Bool}
end
end MV
namespace MV
open PySem PySem.Spec PyProof.Rows L2
def gR3 : List D → Option (List D)
  | [.int i, .int j, .int c] => if smallI i && smallI j && decide (c = -1) then some (rngC i (-1) (i - j).toNat) else none
  | _ => none
section
variable {X : Cx} {cf : Cf} {W : WX} {c : Cls} {n n1 n2 : Bool} {tg : Expr}
end
@[simp] theorem gR3_i {i j : Int} : gR3 [.int i, .int j, .int (-1)] = if smallI i && smallI j then some (rngC i (-1) (i - j).toNat) else none := by
  unfold gR3; simp
def keyD : D → Option Key
  | .int i => some (.inl i)
  | .str x => some (.inr x)
  | _ => none
def keysD : List D → Option (List Key)
  | [] => some []
  | d :: r => match keyD d, keysD r with
    | some k, some ks => some (k :: ks)
    | _, _ => none
def dval {κ : Type} [DecidableEq κ] (kvs : List (κ × D)) (k : κ) : Option D := (kvs.find? fun kv => decide (kv.1 = k)).map (·.2)
def dput {κ : Type} [DecidableEq κ] (kvs : List (κ × D)) (k : κ) (d : D) : List (κ × D) :=
  if (kvs.any fun kv => decide (kv.1 = k)) = true then kvs.map (fun kv => if kv.1 = k then (kv.1, d) else kv) else kvs ++ [(k, d)]
def dLook : D → D → Option (Option D)
  | .dic kvs, y => (keyD y).map fun k => dval kvs k
  | .dit kvs, .tup ks => (keysD ks).map fun k => dval kvs k
  | _, _ => none
def isDic : D → Option Unit
  | .dic _ => some ()
  | .dit _ => some ()
  | _ => none
theorem keyD_v {K : PySem.W.Frag} {x : Bool} {G : Hp} {y : V} {d : D} {k : Key} (h : Rp K x G y d) (q : keyD d = some k) : y = kV k := by
  cases d with
  | int i => cases q; exact h.int_inv
  | str z => cases q; exact h.str_inv
  | _ => cases q
theorem keysD_v {K : PySem.W.Frag} {x : Bool} {G : Hp} : ∀ {ys : List V} {ds : List D} {ks : List Key}, RpL K x G ys ds → keysD ds = some ks → ys = ks.map kV
  | _, _, _, .nil, q => by cases q; rfl
  | _, _, _, .cons h r, q => by
    unfold keysD at q
    split at q
    · rename_i k ks q1 q2
      cases q
      rw [List.map_cons, keyD_v h q1, keysD_v r q2]
    · cases q
def OR (K : PySem.W.Frag) (G : Hp) : Option D → Option V → Prop
  | none, none => True
  | some d, some v => Rp K true G v d
  | _, _ => False
section
variable {κ : Type} [DecidableEq κ] {K : PySem.W.Frag} {x : Bool} {G : Hp}
theorem val_rp {k : κ} : ∀ {kvs' : List (κ × V)} {kvs : List (κ × D)}, kvs'.map (·.1) = kvs.map (·.1) → RpL K true G (kvs'.map (·.2)) (kvs.map (·.2)) → OR K G (dval kvs k) (valV kvs' k)
  | [], [], _, _ => True.intro
  | p :: r, q :: s, h1, h2 => by
    rw [List.map_cons, List.map_cons] at h1 h2
    injection h1 with e1 e2
    cases h2 with
    | cons h2 h3 =>
      by_cases e : p.1 = k
      · have e' : q.1 = k := e1 ▸ e
        rw [valV_pos e]
        have : dval (q :: s) k = some q.2 := by simp [dval, e']
        rw [this]; exact h2
      · have e' : ¬ q.1 = k := fun z => e (e1.trans z)
        rw [valV_neg e]
        have : dval (q :: s) k = dval s k := by simp [dval, e']
        rw [this]; exact val_rp e2 h3
  | [], _ :: _, h1, _ => by cases h1
  | _ :: _, [], h1, _ => by cases h1
theorem any_rp {k : κ} : ∀ {kvs' : List (κ × V)} {kvs : List (κ × D)}, kvs'.map (·.1) = kvs.map (·.1) → (kvs'.any fun kv => decide (kv.1 = k)) = kvs.any fun kv => decide (kv.1 = k)
  | [], [], _ => rfl
  | p :: r, q :: s, h1 => by
    rw [List.map_cons, List.map_cons] at h1
    injection h1 with e1 e2
    rw [List.any_cons, List.any_cons, any_rp e2, e1]
  | [], _ :: _, h1 => by cases h1
  | _ :: _, [], h1 => by cases h1
end
theorem look_rp {K : PySem.W.Frag} {G H : Hp} {x y : V} {d e : D} {o : Option D} (ex : Ex G H) (h1 : Rp K true G x d) (h2 : Rp K true G y e) (q : dLook d e = some o) : ∃ a ov, x = .ref a ∧ IsD H a ∧ DGet H a y ov ∧ OR K G o ov := by
  unfold dLook at q
  split at q
  · rename_i kvs
    obtain ⟨k, q1, rfl⟩ := Option.map_eq_some_iff.mp q
    obtain ⟨a, kvs', rfl, g, r1, r2⟩ := h1.dic_inv
    exact ⟨a, valV kvs' k, rfl, .inl ⟨_, .inl (ex _ _ g)⟩, .inl ⟨_, k, .inl (ex _ _ g), keyD_v h2 q1, rfl⟩, val_rp r1 r2⟩
  · rename_i kvs ks
    obtain ⟨k, q1, rfl⟩ := Option.map_eq_some_iff.mp q
    obtain ⟨a, kvs', rfl, g, r1, r2⟩ := h1.dit_inv
    obtain ⟨b, ys, rfl, s1, r3⟩ := h2.tup_inv
    have s1 : G b = some (.tup ys) := s1
    rw [keysD_v r3 q1] at s1
    exact ⟨a, valV kvs' k, rfl, .inr ⟨_, rd_mono ex g⟩, .inr ⟨_, k, b, rd_mono ex g, rfl, ex _ _ s1, rfl⟩, val_rp r1 r2⟩
  · cases q
def gDIx (x y : D) : Option D := match dLook x y with
  | some (some d) => some d
  | _ => none
def rDIx : R2 := fun x y H Q => ∃ a v, x = .ref a ∧ DGet H a y (some v) ∧ Q v H
theorem snd_dix {K : PySem.W.Frag} : Snd2 K false rDIx gDIx := fun G H x y d1 d2 d e h1 h2 q Q k => by
  unfold gDIx at q
  split at q
  · rename_i d' q1
    cases q
    obtain ⟨a, ov, rfl, _, g, o⟩ := look_rp e h1 h2 q1
    cases ov with
    | none => exact o.elim
    | some v => exact ⟨a, v, rfl, g, k v H (Ex.refl H) (Rp.mono (Ex.grow e (Ex.refl H)) o) fun z => by cases z⟩
  · cases q
def gDNewK : List D → Option D := fun _ => some (.dic [])
def gDNewT : List D → Option D := fun _ => some (.dit [])
def eDGet1 (fo fk : M D) : M D := bnd fo fun d => bnd (lift (isDic d)) fun _ => bnd fk fun k => lift ((dLook d k).map fun o => o.getD .non)
def eDGet2 (fo fk fx : M D) : M D := bnd fo fun d => bnd (lift (isDic d)) fun _ => bnd fk fun k => bnd fx fun x => lift ((dLook d k).map fun o => o.getD x)
section
variable {X : Cx} {cf : Cf} {W : WX} {c : Cls} {n n1 n2 n3 : Bool}
theorem se_dix {a b : Expr} {ta tb : TE} {fa fb : M D} {pos : Pos} (hu : X.A.units + 64 < cLine) (ha : SE X cf W c n1 a ta fa) (hb : SE X cf W c n2 b tb fb) (hs : NoSl b := by intro _ _; rfl) : SE X cf W c false (.Subscript a b pos) (tOp rDIx ta tb) (e2 gDIx fa fb) :=
  ⟨pe_dget (by omega) ha.p hb.p hs, sd_op2 snd_dix ha.s hb.s⟩
def dok : D → Bool
  | .dic [] => true
  | .dit [] => true
  | _ => false
def sSetD (i : Nat) (f : M D) : M Fl := bnd f fun d => bnd (lift (if dok d then some d else none)) fun d => fun e => .ok .nx (e.set i (some d))
end
end MV
namespace MV
open PySem PySem.Spec PyProof.Rows L2
def dPut : D → D → D → Option D
  | .dic kvs, y, v => match keyD y with
    | some k => if kvs.length < LIM then some (.dic (dput kvs k v)) else none
    | none => none
  | .dit kvs, .tup ks, v => match keysD ks with
    | some k => if kvs.length < LIM then some (.dit (dput kvs k v)) else none
    | none => none
  | _, _, _ => none
def dicAt (i : Nat) (e : PEnv) : Option D := match e[i]? with
  | some (some d) => if (isDic d).isSome then some d else none
  | _ => none
def sDP (i : Nat) (fv fk : M D) : M Fl := bnd fv fun d => fun e => match dicAt i e with
  | none => .stuck
  | some _ => bnd fk (fun k => fun e => match dicAt i e with
    | some m => match dPut m k d with
      | some m' => .ok .nx (e.set i (some m'))
      | none => .stuck
    | none => .stuck) e
section
variable {X : Cx} {cf : Cf} {W : WX} {c : Cls} {n n1 n2 n3 : Bool}
theorem Own.dic_mk {K : PySem.W.Frag} {Hn H : Hp} {p : Addr} {kvs' : List (Key × V)} {kvs : List (Key × D)} (h : H p = some (.dK kvs')) (h1 : kvs'.map (·.1) = kvs.map (·.1)) (h2 : RpL K true Hn (kvs'.map (·.2)) (kvs.map (·.2))) : Own K Hn H [p] (.ref p) (.dic kvs) := by
  have := Own.dic (K := K) (Hn := Hn) (H := H) (p := p) (F := []) (ks := kvs.map (·.1)) (vs := kvs'.map (·.2)) (ds := kvs.map (·.2)) (by rw [← h1, zip_fs]; exact h) (by rw [← h1, List.length_map, List.length_map]) (ownL_of h2)
  rw [zip_fs] at this
  exact this
def gTup1 : List D → Option D
  | [.lst ds] => some (.tup ds)
  | _ => none
end
section
variable {e : PEnv} {fo fk fx fv : M D} {i : Nat} {ds : List D} {kvs : List (Key × D)} {kts : List (List Key × D)}
@[simp] theorem r_eDGet1 : eDGet1 fo fk e = rb (fo e) fun d e => ro (isDic d) fun _ => rb (fk e) fun k e => lift ((dLook d k).map fun o => o.getD .non) e := by
  show rb (fo e) _ = _
  congr 1; funext d e
  show rb (lift (isDic d) e) _ = _
  cases isDic d <;> rfl
@[simp] theorem r_eDGet2 : eDGet2 fo fk fx e = rb (fo e) fun d e => ro (isDic d) fun _ => rb (fk e) fun k e => rb (fx e) fun x e => lift ((dLook d k).map fun o => o.getD x) e := by
  show rb (fo e) _ = _
  congr 1; funext d e
  show rb (lift (isDic d) e) _ = _
  cases isDic d <;> rfl
@[simp] theorem r_sSetD : sSetD i fv e = rb (fv e) fun d e => if dok d then .ok .nx (e.set i (some d)) else .stuck := by
  show rb (fv e) _ = _
  congr 1; funext d e; cases h : dok d <;> simp [h]
def dicO (o : Option (Option D)) : Option D := match o with
  | some (some d) => if (isDic d).isSome then some d else none
  | _ => none
@[simp] theorem dicO_k : dicO (some (some (.dic kvs))) = some (.dic kvs) := (rfl)
@[simp] theorem dicO_t : dicO (some (some (.dit kts))) = some (.dit kts) := (rfl)
@[simp] theorem r_sDP : sDP i fv fk e = rb (fv e) fun d e => ro (dicO (e[i]?)) fun _ => rb (fk e) fun k e => ro (dicO (e[i]?)) fun m => ro (dPut m k d) fun m' => .ok .nx (e.set i (some m')) := by
  show rb (fv e) _ = _
  congr 1; funext d e
  show _ = ro (dicAt i e) _
  cases dicAt i e with
  | none => rfl
  | some m =>
    show rb (fk e) _ = _
    simp only [ro_some]
    congr 1; funext k e
    show _ = ro (dicAt i e) _
    cases dicAt i e with
    | none => rfl
    | some m => simp only [ro_some]; cases dPut m k d <;> rfl
@[simp] theorem isDic_k : isDic (.dic kvs) = some () := (rfl)
@[simp] theorem isDic_t : isDic (.dit kts) = some () := (rfl)
@[simp] theorem gDNewK_v : gDNewK ds = some (.dic []) := (rfl)
@[simp] theorem gDNewT_v : gDNewT ds = some (.dit []) := (rfl)
@[simp] theorem dok_k : dok (.dic []) = true := (rfl)
@[simp] theorem dok_t : dok (.dit []) = true := (rfl)
@[simp] theorem gTup1_l : gTup1 [.lst ds] = some (.tup ds) := (rfl)
@[simp] theorem keyD_i {j : Int} : keyD (.int j) = some (.inl j) := (rfl)
@[simp] theorem keyD_s {x : Str} : keyD (.str x) = some (.inr x) := (rfl)
@[simp] theorem dLook_k {y : D} : dLook (.dic kvs) y = (keyD y).map fun k => dval kvs k := (rfl)
@[simp] theorem dLook_t : dLook (.dit kts) (.tup ds) = (keysD ds).map fun k => dval kts k := (rfl)
@[simp] theorem gSortSet_l : gSortSet [.lst ds] = match asInts ds with | some ns => if ns.length ≤ 4000 then some (.lst ((dsI ns).map .int)) else none | none => none := (rfl)
@[simp] theorem gSorted_l : gSorted [.lst ds] = (asInts ds).map fun ns => .lst ((srtI ns).map .int) := (rfl)
@[simp] theorem gSorted_k : gSorted [.dic kvs] = (keysI kvs).map fun ns => .lst ((srtI ns).map .int) := (rfl)
end
end MV
namespace MV
open PySem PySem.Spec PyProof.Rows L2
def eChain (g g' : D → D → Option D) (fa fb fc : M D) : M D := bnd fa fun x => bnd fb fun y => bnd (lift (g x y)) fun z => bnd (lift (asB z)) fun k => if k then bnd fc fun w => lift (g' y w) else ret (.bl false)
section
variable {X : Cx} {cf : Cf} {W : WX} {ca cb cc : Cls} {n1 n2 n3 : Bool} {a b c : Expr} {ta tb tc : TE} {fa fb fc : M D} {pos : Pos} {g g' : Int → Int → Bool}
end
section
variable {e : PEnv} {fa fb fc : M D} {g g' : D → D → Option D}
@[simp] theorem r_eChain : eChain g g' fa fb fc e = rb (fa e) fun x e => rb (fb e) fun y e => rb (lift (g x y) e) fun z e => rb (lift (asB z) e) fun k e => if k then rb (fc e) fun w e => lift (g' y w) e else .ok (.bl false) e := by
  show rb (fa e) _ = _
  congr 1; funext x e
  show rb (fb e) _ = _
  congr 1; funext y e
  show rb _ _ = _
  congr 1; funext z e
  show rb _ _ = _
  congr 1; funext k e; cases k <;> rfl
end
end MV
namespace MV
open PySem PySem.Spec PyProof.Rows L2
section
variable {X : Cx} {cf : Cf} {W : WX} {c : Cls} {n n1 n2 : Bool}
def sSetML (i : Nat) (fa : M (List D)) : M Fl := bnd fa fun ds => fun e => if ds.length ≤ LIM then .ok .nx (e.set i (some (.lst ds))) else .stuck
def sSetMC (i : Nat) (fa : M (List D)) : M Fl := fun e => match lstAt i e with
  | none => .stuck
  | some _ => bnd fa (fun ds => fun e => match lstAt i e with
    | some ds0 => if ds0.length + ds.length ≤ LIM then .ok .nx (e.set i (some (.lst (ds0 ++ ds)))) else .stuck
    | none => .stuck) e
theorem SdA.bind {ta : TA} {fa : M (List D)} {g : List D → M Fl} {R : Rs} {Hs : Hp} {env : PEnv} {σ : L2.St} {H : Hp} {F : Nat → List Addr} {wf : List Addr} {D : Ends} {Q : List V → Hp → Prop} (s : SdA cf W c ta fa) (r : Rel cf R Hs env σ H F wf) (hp : Post cf W R Hs D (bnd fa g env))
    (hx : ∀ x σ' H', W x none σ' H' → W x none σ' H')
    (k : ∀ ds env1 vs Hs1 H1, Stp cf wf env Hs H env1 Hs1 H1 → Rel cf R Hs1 env1 σ H1 F wf → RpL cf.K true (rg c R.H0 Hs1 H H1 wf) vs ds → Post cf W R Hs D (g ds env1) → Q vs H1) : ta σ H Q := by
  cases q : fa env with
  | ok ds env1 => exact s.ok r q fun vs Hs1 H1 s1 r1 p1 => k ds env1 vs Hs1 H1 s1 r1 p1 (by rw [bnd_of_ok q] at hp; exact hp)
  | ex x env1 => exact s.exn r q fun Hs1 H1 s1 r1 => by rw [bnd_of_ex q] at hp; exact hp Hs1 σ H1 F wf s1.ex r1
  | stuck => rw [bnd_of_stuck q] at hp; exact hp.elim
end
section
variable {P : Program} {w : World} {K : PySem.W.Frag} {mg : Str → Option Value} {base : Heap}
end
section
variable {e : PEnv} {i : Nat} {r : M (List D)}
@[simp] theorem r_sSetML : sSetML i r e = rb (r e) fun ds e => if ds.length ≤ LIM then .ok .nx (e.set i (some (.lst ds))) else .stuck := (rfl)
@[simp] theorem r_sSetMC : sSetMC i r e = ro (lstO (e[i]?)) fun _ => rb (r e) fun ds e => ro (lstO (e[i]?)) fun ds0 => if ds0.length + ds.length ≤ LIM then .ok .nx (e.set i (some (.lst (ds0 ++ ds)))) else .stuck := by
  unfold sSetMC
  show _ = ro (lstAt i e) _
  cases lstAt i e with
  | none => rfl
  | some ds =>
    show rb (r e) _ = _
    simp only [ro_some]
    congr 1; funext d e
    show _ = ro (lstAt i e) _
    cases lstAt i e <;> rfl
end
end MV
namespace MV
open PySem L2
open PySem.W (alike alikeAll dataLt minD AlikeAll AllAlike Sortable dataLe EachIs)
def D.P (d : D) : PyData := d.toP.getD .none
mutual
theorem toP_inj : ∀ {a b : D} {p : PyData}, a.toP = some p → b.toP = some p → a = b
  | .non, b, p, h, h2 => by cases h; cases b <;> first | rfl | (simp [D.toP] at h2)
  | .bl x, b, p, h, h2 => by cases h; cases b <;> first | (simp [D.toP] at h2; subst h2; rfl) | (simp [D.toP] at h2)
  | .int x, b, p, h, h2 => by cases h; cases b <;> first | (simp [D.toP] at h2; subst h2; rfl) | (simp [D.toP] at h2)
  | .str x, b, p, h, h2 => by cases h; cases b <;> first | (simp [D.toP] at h2; subst h2; rfl) | (simp [D.toP] at h2)
  | .lst xs, b, p, h, h2 => by
    rw [D.toP, Option.map_eq_some_iff] at h
    obtain ⟨ps, h, rfl⟩ := h
    cases b with
    | lst ys =>
      rw [D.toP, Option.map_eq_some_iff] at h2
      obtain ⟨qs, h2, e⟩ := h2
      cases e
      rw [toPs_inj h h2]
    | _ => simp [D.toP] at h2
  | .tup xs, b, p, h, h2 => by
    rw [D.toP, Option.map_eq_some_iff] at h
    obtain ⟨ps, h, rfl⟩ := h
    cases b with
    | tup ys =>
      rw [D.toP, Option.map_eq_some_iff] at h2
      obtain ⟨qs, h2, e⟩ := h2
      cases e
      rw [toPs_inj h h2]
    | _ => simp [D.toP] at h2
  | .dic _, b, p, h, h2 => by cases h
  | .dit _, b, p, h, h2 => by cases h
  | .exc _, b, p, h, h2 => by cases h
theorem toPs_inj : ∀ {a b : List D} {p : List PyData}, toPs a = some p → toPs b = some p → a = b
  | [], b, p, h, h2 => by
    cases h
    cases b with
    | nil => rfl
    | cons y ys => rw [toPs] at h2; split at h2 <;> cases h2
  | x :: xs, b, p, h, h2 => by
    rw [toPs] at h
    split at h
    · rename_i p1 p2 e1 e2
      cases h
      cases b with
      | nil => cases h2
      | cons y ys =>
        rw [toPs] at h2
        split at h2
        · rename_i q1 q2 f1 f2
          cases h2
          rw [toP_inj e1 f1, toPs_inj e2 f2]
        · cases h2
    · cases h
end
def okO (l : List D) : Bool := l.all fun a => a.toP.isSome && decide (a.P.depth ≤ 60) && (match a with | .non => false | _ => true) && l.all fun b => alike a.P b.P
def ltD (a b : D) : Bool := dataLt a.P b.P
section
variable {X : Cx} {cf : Cf} {W : WX} {c ca cb : Cls} {n n1 n2 : Bool} {a b : Expr} {ta tb : TE} {fa fb : M D} {pos : Pos}
end
def mnD (d : D) (ds : List D) : D := ds.foldl (fun a y => if ltD y a then y else a) d
def gMinD : List D → Option D
  | [.lst (d :: ds)] => if okO (d :: ds) then some (mnD d ds) else none
  | _ => none
def gMinX : List D → Option D
  | [.lst []] => some .non
  | x => gMinD x
section
variable {X : Cx} {cf : Cf} {W : WX} {c ca cb : Cls} {n n1 n2 : Bool} {e : Expr} {es : List Expr} {tA : TA} {fA : M (List D)} {p pos kpos npos : Pos} {j : Nat}
end
end MV
namespace MV
open PySem PySem.Spec PyProof.Rows L2
section
variable {X : Cx} {cf : Cf} {W : WX} {c : Cls} {n n1 n2 : Bool}
structure ItOkN (K : PySem.W.Frag) (H0 : Hp) (J : It) (G1 Hs1 : Hp) (ds : List D) : Prop where
  go : ∀ i H, i < ds.length → Ex G1 H → J.go i H
  stop : ∀ H, Ex G1 H → J.stop ds.length H
  yld : ∀ i H x H', Ex G1 H → i < ds.length → J.yld i H x H' → Ex H H' ∧ ∀ G, Ex Hs1 G → Ex G H → ∃ d, ds[i]? = some d ∧ Rp K true (rs G H0) x d
def SdIN (cf : Cf) (W : WX) (wi : TI) (fi : M (List D)) : Prop :=
  ∀ (R : Rs) (Hs : Hp) (env : PEnv) (σ : L2.St) (H : Hp) (F : Nat → List Addr) (wf : List Addr), Rel cf R Hs env σ H F wf → ∀ Rk : It → Hp → Prop,
    match fi env with
    | .ok ds env' => (∀ J G1 Hs' H', Stp cf wf env Hs H env' Hs' H' → Rel cf R Hs' env' σ H' F wf → Ex G1 (rm H' wf) → ItOkN cf.K R.H0 J G1 Hs' ds → Rk J H') → wi σ H Rk
    | .ex x env' => (∀ Hs' H', Stp cf wf env Hs H env' Hs' H' → Rel cf R Hs' env' σ H' F wf → W (cf.cv x) none σ H') → wi σ H Rk
    | .stuck => True
structure SIN (X : Cx) (cf : Cf) (W : WX) (tg iter : Expr) (wi : TI) (fi : M (List D)) : Prop where
  p : PI X tg iter wi
  s : SdIN cf W wi fi
def SdGN (cf : Cf) (is : List Nat) (g : TG) (tg : D → M Unit) : Prop :=
  ∀ (R : Rs) (Hs : Hp) (env : PEnv) (σ : L2.St) (H : Hp) (F : Nat → List Addr) (wf : List Addr), Rel cf R Hs env σ H F wf → ∀ (d : D) (v : V), Rp cf.K true (rs Hs R.H0) v d → ∀ Q : L2.St → Hp → Prop,
    match tg d env with
    | .ok _ env' => (∀ σ', Rel cf R Hs env' σ' H F wf → wipe σ' is = wipe σ is → (∀ j, j ∉ is → env'[j]? = env[j]?) → Q σ' H) → g v σ H Q
    | .ex _ _ => False
    | .stuck => True
structure SGtN (X : Cx) (cf : Cf) (is : List Nat) (tg : Expr) (g : TG) (f : D → M Unit) : Prop where
  p : PG X tg g
  s : SdGN cf is g f
end
section
variable {X : Cx} {cf : Cf} {W : WX} {ca cb : Cls} {n1 n2 : Bool} {a b : Expr} {ta tb : TE} {fa fb : M D} {pos : Pos}
end
end MV
namespace MV
open PySem PySem.Spec PyProof.Rows L2
section
variable {K : PySem.W.Frag} {Hn H : Hp}
theorem Own.sc_nil {F : List Addr} {v : V} {d : D} (h : Own K Hn H F v d) (hs : d.sc = true) : F = [] := by
  cases h with
  | leaf _ => rfl
  | lst _ _ => cases hs
  | tup _ _ => cases hs
  | dic _ _ _ => cases hs
  | dit _ _ _ => cases hs
theorem OwnL.init : ∀ {F : List Addr} {vs : List V} {ds : List D} {v : V} {d : D}, OwnL K Hn H F (vs ++ [v]) (ds ++ [d]) → vs.length = ds.length → d.sc = true → OwnL K Hn H F vs ds
  | _, [], [], v, d, h, _, hs => by
    have h : OwnL K Hn H _ [v] [d] := h
    cases h with
    | cons h1 h2 =>
      cases h2
      rw [h1.sc_nil hs]
      exact .nil
  | _, _ :: _, [], v, d, h, hl, _ => by cases hl
  | _, [], _ :: _, v, d, h, hl, _ => by cases hl
  | _, x :: xs, y :: ys, v, d, h, hl, hs => by
    have h : OwnL K Hn H _ (x :: (xs ++ [v])) (y :: (ys ++ [d])) := h
    cases h with
    | cons h1 h2 => exact .cons h1 (OwnL.init h2 (by simpa using hl) hs)
theorem OwnL.set : ∀ {F : List Addr} {vs : List V} {ds : List D} (j : Nat) {v : V} {d d0 : D}, OwnL K Hn H F vs ds → ds[j]? = some d0 → d0.sc = true → Rp K true Hn v d → OwnL K Hn H F (vs.set j v) (ds.set j d)
  | _, _, _, j, v, d, d0, .nil, h, _, _ => by simp at h
  | _, _, _, 0, v, d, d0, .cons h1 h2, h, hs, r => by
    simp at h
    subst h
    have e := h1.sc_nil hs
    subst e
    exact OwnL.cons (F := []) (.leaf r) h2
  | _, _, _, j + 1, v, d, d0, .cons h1 h2, h, hs, r => .cons h1 (OwnL.set j h2 (by simpa using h) hs r)
end
section
variable {X : Cx} {cf : Cf} {W : WX} {c : Cls} {n n1 n2 : Bool}
end
end MV
namespace MV
open PySem PySem.Spec PyProof.Rows L2
structure FnQ (P : Program) (w : World) (K : PySem.W.Frag) (mg : Str → Option Value) (base : Heap) (k : Nat) (f : Addr) (fd : FuncData) (ps : List Str) (sp : Sp) : Prop where
  len : ∀ vs H Q E, sp vs H Q E → vs.length = ps.length
  run : ∀ (A : Around) (outer : List Env) (s : Shared) (H : Hp) (args : Args) (us : List Value) (vs : List V) (Q : VK) (E : XK), L2H.RoomH k A → Env0 P w K mg base A outer s H →
    BindsTo s fd args (ps.zip us) → Vals vs us → sp vs H Q E → codeAny (model P w) A (.call (.ref f) args) (CR (L2N.CX P w) outer P w H s Q E) s
section
variable {P : Program} {w : World} {K : PySem.W.Frag} {mg : Str → Option Value} {base : Heap}
end
section
variable {X : Cx} {cf : Cf} {W : WX}
end
section
variable {X : Cx} {x n : Str} {c : Value} {i : Nat} {body suite : List Stmt} {b₀ : Stmt} {np pos pos' : Pos} {tb : WX → TS} {ts : Addr → Value → TS} {Wo : WX}
end
section
variable {X : Cx} {cf : Cf} {W : WX}
end
end MV
namespace MV
open PySem PySem.Spec PyProof.Rows L2
section
open Classical
variable {cf : Cf} {R : Rs} {Hs H : Hp} {env : PEnv} {σ : L2.St} {F : Nat → List Addr} {wf : List Addr}
def Held (cf : Cf) (F : Nat → List Addr) (a : Addr) : Prop := ∃ i, cf.kd i ≠ .W ∧ a ∈ F i
theorem Held.nw (r : Rel cf R Hs env σ H F wf) {a : Addr} (h : Held cf F a) : a ∉ wf := by obtain ⟨i, k, m⟩ := h; exact r.volb i k a m
theorem Held.dom (r : Rel cf R Hs env σ H F wf) {a : Addr} (h : Held cf F a) : H a ≠ none := by obtain ⟨i, k, m⟩ := h; exact r.fdom i a m
end
section
variable {X : Cx} {cf : Cf} {W : WX} {a : Expr} {ta : TE} {fa : M D} {n : Bool}
end
end MV
namespace MV
open PySem PySem.Spec PyProof.Rows L2
open PySem.W (minD)
def gIxL : D → D → Option D
  | .lst ds, .int i => L2.atI ds i
  | _, _ => none
@[simp] theorem gIxL_l {ds : List D} {i : Int} : gIxL (.lst ds) (.int i) = L2.atI ds i := (rfl)
section
variable {X : Cx} {cf : Cf} {W : WX} {c : Cls} {n n1 : Bool}
def gMinXL : List D → Option D
  | [.lst ds] => gMinX [.lst ds]
  | _ => none
@[simp] theorem gMinXL_l {ds : List D} : gMinXL [.lst ds] = gMinX [.lst ds] := (rfl)
section
variable {e : Expr} {p pos kpos npos : Pos} {j i : Nat}
end
section
variable {R : Rs} {Hs H : Hp} {env : PEnv} {σ : L2.St} {F : Nat → List Addr} {wf : List Addr}
end
end
end MV
namespace MV
open PySem PySem.Spec PyProof.Rows L2
section
variable {X : Cx} {cf : Cf} {W : WX} {c : Cls} {n n1 : Bool}
def SdGsN (cf : Cf) (is js : List Nat) (g : TGs) : Prop :=
  ∀ (R : Rs) (Hs : Hp) (env : PEnv) (σ : L2.St) (H : Hp) (F : Nat → List Addr) (wf : List Addr), Rel cf R Hs env σ H F wf → ∀ (ds : List D) (vs : List V), RpL cf.K true (rs Hs R.H0) vs ds → ∀ Q : L2.St → Hp → Prop, ∀ env', setAll js ds env = some env' →
    (∀ σ', Rel cf R Hs env' σ' H F wf → wipe σ' is = wipe σ is → (∀ j, j ∉ is → env'[j]? = env[j]?) → Q σ' H) → g vs σ H Q
structure SGtsN (X : Cx) (cf : Cf) (is js : List Nat) (ts : List Expr) (g : TGs) : Prop where
  p : PGs X ts g
  s : SdGsN cf is js g
end
end MV
namespace MV
open PySem PySem.Spec PyProof.Rows L2
def gZpA : List D → Option (List D)
  | [.lst as, .lst bs] => some (zipD as bs)
  | [.tup as, .tup bs] => some (zipD as bs)
  | _ => none
@[simp] theorem gZpA_l {a b : List D} : gZpA [.lst a, .lst b] = some (zipD a b) := (rfl)
@[simp] theorem gZpA_t {a b : List D} : gZpA [.tup a, .tup b] = some (zipD a b) := (rfl)
section
variable {X : Cx} {cf : Cf} {W : WX} {c : Cls} {n n1 : Bool}
end
end MV
namespace MV
open PySem PySem.Spec PyProof.Rows L2
def sClr (i : Nat) : M Fl := fun e => match lstAt i e with
  | some _ => .ok .nx (e.set i (some (.lst [])))
  | none => .stuck
section
variable {X : Cx} {cf : Cf} {W : WX} {c : Cls} {n n1 : Bool}
@[simp] theorem r_sClr {i : Nat} {e : PEnv} : sClr i e = ro (lstO (e[i]?)) fun _ => .ok .nx (e.set i (some (.lst []))) := by
  unfold sClr
  show _ = ro (lstAt i e) _
  cases lstAt i e <;> rfl
end
end MV
namespace MV
open PySem PySem.Spec PyProof.Rows L2
section
variable {cf : Cf} {R : Rs} {Hs H : Hp} {env : PEnv} {σ : L2.St} {F : Nat → List Addr} {wf : List Addr} {i : Nat} {p : Addr} {kvs : List (Key × D)} {kvs' : List (Key × V)}
end
def eLock (i : Nat) (f : M D) : M D := fun e => match e[i]? with
  | some (some (.dic kvs)) => if (kvs.map (·.2)).all D.sc then (match f e with
    | .ok d e' => .ok d e'
    | _ => .stuck) else .stuck
  | _ => .stuck
section
variable {X : Cx} {cf : Cf} {W : WX} {a : Expr} {ta : TE} {fa : M D} {n : Bool} {i : Nat}
@[simp] theorem r_eLock {e : PEnv} {kvs : List (Key × D)} (h : e[i]? = some (some (.dic kvs))) (hs : (kvs.map (·.2)).all D.sc = true) {d : D} {e' : PEnv} (hf : fa e = .ok d e') : eLock i fa e = .ok d e' := by
  unfold eLock
  simp only [h, hs, hf, if_true]
end
end MV
namespace MV
open PySem PySem.Spec PyProof.Rows L2
def gIsB : D → D → Option D
  | .bl a, .bl b => some (.bl (decide (a = b)))
  | _, _ => none
def gNotB : D → D → Option D
  | .bl a, .bl b => some (.bl (!decide (a = b)))
  | _, _ => none
@[simp] theorem gIsB_b {a b : Bool} : gIsB (.bl a) (.bl b) = some (.bl (decide (a = b))) := (rfl)
@[simp] theorem gNotB_b {a b : Bool} : gNotB (.bl a) (.bl b) = some (.bl (!decide (a = b))) := (rfl)
section
variable {X : Cx} {cf : Cf} {W : WX} {c c' : Cls} {n n1 n2 : Bool} {a b : Expr} {ta tb : TE} {fa fb : M D} {pos : Pos}
end
def rgC (i c : Int) (n : Nat) : List V := (List.range n).map fun k => V.int (i + (k : Nat) * c)
theorem vals_rgC {i c : Int} {n : Nat} {acc : Array Value} (h : ItemsOf (fun k v => ∃ t, v = .int (i + k * c) t) acc n) : Vals (rgC i c n) acc.toList := by
  have e : acc.toList.length = n := by rw [Array.length_toList]; exact h.1
  unfold rgC
  rw [← e]
  refine vals_of_get acc.toList _ fun j u hj => ?_
  obtain ⟨t, rfl⟩ := h.2 j u (by rw [← hj, Array.getElem?_toList])
  exact ⟨t, rfl⟩
def rLR3 : List V → Hp → VK → Prop := fun vs H Q => ∃ (i j c : Int) (n : Nat), vs = [.int i, .int j, .int c] ∧ RgC i j c n ∧ n ≤ LIM ∧ ∀ q, H q = none → Q (.ref q) (upd H q (.lst (rgC i c n)))
def tLR3 (ta : TA) : TE := fun σ H Q => ta σ H fun vs H1 => rLR3 vs H1 Q
theorem pe_listR3 {X : Cx} {a b c : Expr} {ta : TA} {p p2 pos pos2 : Pos} (hc : X.calm = true) (hm : X.mg "list" = none) (hm2 : X.mg "range" = none) (ha : PA X [a, b, c] ta) (hg : Gl X "list" := by rfl) (hg2 : Gl X "range" := by rfl)
    (na : starEach [.Call (.Name "range" p2) [a, b, c] [] pos2] X.env = (false, eval (.Call (.Name "range" p2) [a, b, c] [] pos2) X.env) :: starEach [] X.env := by rfl)
    (hs : starEach [a, b, c] X.env = (false, eval a X.env) :: starEach [b, c] X.env := by rfl) (hpl : (backTo pos2 (starEach [b, c] X.env)).any (·.1) = false := by rfl) :
    PE X (.Call (.Name "list" p) [.Call (.Name "range" p2) [a, b, c] [] pos2] [] pos) (tLR3 ta) := by
  refine ⟨fun pins s σ H Q I h => ?_⟩
  have rg : wpAny (model X.prog X.w) X.A (eval (.Call (.Name "range" p2) [a, b, c] [] pos2) X.env) (fun x s' => ∃ r i j k t u v n H', x = .ref r ∧ IsRange s'.heap r i j k t u v ∧ Inv X pins σ H' s' ∧ RgC i j k n ∧ n ≤ LIM ∧ ∀ q, H' q = none → Q (.ref q) (upd H' q (.lst (rgC i k n)))) X.xe s := by
    refine Call_ (ld_blt I hg2 hm2 boot_range (PyProof.Rows.callWith_type1 (thn (ha.run pos2 pins s σ H _ I h) fun us s1 ⟨vs, H1, I1, r1, q1⟩ => ?_) hs hpl))
    obtain ⟨i, j, k, n, e, rc, hn, q⟩ := q1
    subst e
    cases r1 with
    | cons r rr =>
      cases rr with
      | cons r' rr =>
        cases rr with
        | cons r'' rr =>
          cases rr
          obtain ⟨t, rfl⟩ := r
          obtain ⟨t', rfl⟩ := r'
          obtain ⟨t'', rfl⟩ := r''
          refine call_range_3 rc.1 ?_ (.inl (PyProof.noPylong_small rc.2.1))
          exact ⟨_, i, j, k, _, _, _, n, H1, rfl, IsRange.new _ _ _ _ _ _ _, I1.kept fun b u e => Heap.get?_push_of_some _ e, rc, hn, q⟩
  refine Call_ (ld_blt I hg hm boot_list (PyProof.Rows.callWith_type1 (args_cons (thn rg fun x s1 ⟨r, i, j, k, t, u, v, n, H1, ex, hr, I1, rc, hn, q⟩ => args_nil ?_) na) na))
  subst ex
  refine call_list_range (n := n) (I1.ok.hd hc) hr rc.2.2.1 rc.2.2.2 (Nat.le_trans hn (by decide)) fun h' tk acc c' hk e' hi => ?_
  refine ⟨.ref s1.heap.objs.size, upd H1 s1.heap.objs.size (.lst (rgC i k n)), I1.laid hk (Nat.le_refl _) (show ObjOk X.prog X.w _ _ _ (.lst (rgC i k n)) from ⟨?_, acc.toList, c', vals_rgC hi, ?_⟩), rfl, q _ (I1.hok.fresh (Nat.le_refl _))⟩
  · unfold rgC
    rw [List.length_map, List.length_range]
    exact Nat.le_trans hn (by decide)
  · rw [Array.toArray_toList]; exact e'
def okR3 (i j c : Int) : Bool := decide (c ≠ 0) && decide (c.natAbs < 1073741824) && Builtin.Range.small i j c && decide ((Builtin.Range.rangeSize i j c).toNat ≤ LIM)
def gLR3 : List D → Option D
  | [.int i, .int j, .int c] => if okR3 i j c then some (.lst (rngC i c (Builtin.Range.rangeSize i j c).toNat)) else none
  | _ => none
@[simp] theorem gLR3_i {i j c : Int} : gLR3 [.int i, .int j, .int c] = if okR3 i j c then some (.lst (rngC i c (Builtin.Range.rangeSize i j c).toNat)) else none := (rfl)
theorem rpl_rgC {K : PySem.W.Frag} {G : Hp} (i c : Int) (n : Nat) : RpL K true G (rgC i c n) (rngC i c n) := by
  unfold rgC rngC
  generalize List.range n = l
  induction l with
  | nil => exact .nil
  | cons a r ih => exact .cons (.int _) ih
theorem snd_LR3 {K : PySem.W.Frag} : SndN K true rLR3 gLR3 := fun G H xs ds d e h q Q k => by
  unfold gLR3 at q
  split at q
  · rename_i i j c
    split at q
    · rename_i ok
      cases q
      unfold okR3 at ok
      rw [Bool.and_eq_true, Bool.and_eq_true, Bool.and_eq_true, decide_eq_true_iff, decide_eq_true_iff, decide_eq_true_iff] at ok
      obtain ⟨⟨⟨o1, o2⟩, o3⟩, o4⟩ := ok
      cases h with
      | cons h1 h =>
        cases h with
        | cons h2 h =>
          cases h with
          | cons h3 h =>
            cases h
            refine ⟨i, j, c, (Builtin.Range.rangeSize i j c).toNat, by rw [h1.int_inv, h2.int_inv, h3.int_inv], ⟨o1, o2, o3, rangeSize_toNat i j c⟩, o4, fun p hp => ?_⟩
            exact k _ _ (Ex.new hp) (new_rp e hp (rpl_rgC _ _ _)) (new_nn (G := G) hp (rpl_rgC _ _ _))
    · cases q
  · cases q
section
variable {X : Cx} {cf : Cf} {W : WX} {c : Cls} {n : Bool}
theorem se_lrg3 {a b e : Expr} {ta : TA} {fa : M (List D)} {p p2 pos pos2 : Pos} (hc : X.calm = true) (hm : X.mg "list" = none) (hm2 : X.mg "range" = none) (ha : SA X cf W c [a, b, e] ta fa) (hg : Gl X "list" := by rfl) (hg2 : Gl X "range" := by rfl)
    (na : starEach [.Call (.Name "range" p2) [a, b, e] [] pos2] X.env = (false, eval (.Call (.Name "range" p2) [a, b, e] [] pos2) X.env) :: starEach [] X.env := by rfl)
    (hs : starEach [a, b, e] X.env = (false, eval a X.env) :: starEach [b, e] X.env := by rfl) (hpl : (backTo pos2 (starEach [b, e] X.env)).any (·.1) = false := by rfl) :
    SE X cf W c true (.Call (.Name "list" p) [.Call (.Name "range" p2) [a, b, e] [] pos2] [] pos) (tLR3 ta) (eN gLR3 fa) :=
  ⟨pe_listR3 hc hm hm2 ha.p hg hg2 na hs hpl, sd_opN snd_LR3 ha.s⟩
end
end MV
namespace MV
open PySem PySem.Spec PyProof.Rows L2
section
variable {X : Cx} {cf : Cf} {W : WX}
end
end MV
namespace MV
open PySem L2
def fgR (i : Nat) : Res Fl → Res Fl
  | .ok f e => .ok f (e.set i none)
  | .ex c e => .ex c (e.set i none)
  | .stuck => .stuck
def sSeal (i : Nat) (g : M Fl) : M Fl := fun e => fgR i (g e)
section
variable {cf : Cf} {R : Rs} {Hs H H' : Hp} {env : PEnv} {σ : L2.St} {F : Nat → List Addr} {wf : List Addr} {i : Nat}
end
section
variable {X : Cx} {cf : Cf} {W : WX}
end
@[simp] theorem r_sSeal {i : Nat} {g : M Fl} {e : PEnv} : sSeal i g e = fgR i (g e) := rfl
@[simp] theorem fgR_ok {i : Nat} {f : Fl} {e : PEnv} : fgR i (.ok f e) = .ok f (e.set i none) := rfl
@[simp] theorem fgR_ex {i : Nat} {c : Str} {e : PEnv} : fgR i (.ex c e) = .ex c (e.set i none) := rfl
end MV
namespace MV
open PySem L2
open PySem.W (alike alikeAll dataLt minD AlikeAll AllAlike Sortable dataLe EachIs)
def leD (a b : D) : Bool := !ltD b a
section
variable {X : Cx} {cf : Cf} {W : WX} {c : Cls}
end
end MV
namespace MV
open PySem PySem.Spec PyProof.Rows L2
def gSIndex : D → List D → Option D
  | .str a, [.str b] => match Builtin.Str.occurrences a b 0 a.length 1 with
    | i :: _ => some (.int (i : Nat))
    | [] => none
  | _, _ => none
section
variable {X : Cx} {cf : Cf} {W : WX} {c : Cls} {n n1 n2 : Bool}
end
@[simp] theorem tyD_s {z : Str} : tyD (.str z) = "str" := (rfl)
end MV
namespace Ov
open PySem MV
def B_need_signs : M Fl := (sIf (tB (e2 gNe (eLc [1] (iL (eV 0)) (tgN 1) (tOr2 (tB (e2 gNe (eN gLen (aCons (eV 1) aNil)) (eC (.int 1)))) (tB (e2 gNotIn (eV 1) (eC (.str (Str.ofString "abcdefghijklmnopqrstuvwxyz")))))) (eV 1)) (eN gLst aNil))) (sRaise (Str.ofString "NoSign")) sSkip)
def F_need_signs : List D → FR := runF 2 B_need_signs
def T_greatest_borders_l1 : M Bool := (tAnd2 (tB (e2 gGt (eV 2) (eC (.int 0)))) (tB (e2 gNe (e2 gIx (eV 0) (eV 2)) (eV 4))))
def B_greatest_borders_l2 : M Fl := (sSet 2 (eS (e2 gIx (eV 1) (e2 gSub (eV 2) (eC (.int 1))))))
def B_greatest_borders_l3 : M Fl := (sSeq (sIf (tB (e2 gGt (eV 3) (eC (.int 0)))) (sSeq (sWhile T_greatest_borders_l1 B_greatest_borders_l2 WFUEL)
  (sAug (fun i j => i + j) 2 (eN gInt1 (aCons (e2 gEq (e2 gIx (eV 0) (eV 2)) (eV 4)) aNil)))) sSkip)
  (sApp 1 (eS (eV 2))))
def B_greatest_borders : M Fl := (sSeq (sSetM 1 (eN gLst aNil))
  (sSeq (sSet 2 (eC (.int 0)))
  (sSeq (sFor (iN gEn (aCons (eV 0) aNil)) (tgT [3, 4]) B_greatest_borders_l3)
  (sRet (eV 1)))))
def F_greatest_borders : List D → FR := runF 5 B_greatest_borders
def B__law_hand : M Fl := (sRet (eN gLst (aCons (eN gMax2 (aCons (eC (.int 0)) (aCons (e2 gSub (eV 0) (e2 gPow (eC (.int 10)) (eC (.int 18)))) aNil))) (aCons (e2 gMul (e2 gAdd (e2 gMod (eV 0) (eC (.int 2147483629))) (eC (.int 1))) (eN gInt1 (aCons (e2 gNe (eV 0) (e2 gPow (eC (.int 10)) (eC (.int 18)))) aNil))) aNil))))
def F__law_hand : List D → FR := runF 1 B__law_hand
def B__law_take : M Fl := (sSeq (sIf (tB (e2 gGt (eIxW 0 (eC (.int 0))) (eC (.int 0)))) (sSeq (sSet 2 (e2 gMod (eIxW 0 (eC (.int 0))) (eV 1)))
  (sSeq (sPutW 0 (e2 gFdiv (eIxW 0 (eC (.int 0))) (eV 1)) (eC (.int 0)))
  (sRet (eV 2)))) sSkip)
  (sSeq (sPutW 0 (e2 gMod (e2 gMul (eIxW 0 (eC (.int 1))) (eC (.int 48271))) (eC (.int 2147483647))) (eC (.int 1)))
  (sRet (e2 gMod (e2 gFdiv (e2 gPow (e2 gAdd (eIxW 0 (eC (.int 1))) (eC (.int 1))) (eC (.int 7))) (eC (.int 8))) (eV 1)))))
def F__law_take : List D → FR := runF 3 B__law_take
def B__law_ends : M Fl := (sRet (eF (eLc [1] (iN gR1 (aCons (eN gLen (aCons (eV 0) aNil)) aNil)) (tgN 1) (tB (e2 gEq (eSl (eV 0) oNone (oSome (eV 1))) (eSl (eV 0) (oSome (e2 gSub (eN gLen (aCons (eV 0) aNil)) (eV 1))) oNone))) (eV 1))))
def F__law_ends : List D → FR := runF 2 B__law_ends
def B__law_wholes : M Fl := (sSeq (sIf (tOr2 (tNot1 (tB (eIsi "list" (eV 0)))) (tB (e2 gNe (eV 0) (eV 1)))) (sRet (eC (.bl false))) sSkip)
  (sRet (e2 gEq (eLc [2] (iL (eV 0)) (tgN 2) (tOr2 (tNot1 (tB (eIsi "int" (eV 2)))) (tB (eIsi "bool" (eV 2)))) (eV 2)) (eN gLst aNil))))
def F__law_wholes : List D → FR := runF 3 B__law_wholes
def T_borders_l1 : M Bool := (tB (e2 gGt (eV 3) (eC (.int 0))))
def B_borders_l2 : M Fl := (sSeq (sApp 1 (eS (eV 3)))
  (sSet 3 (e2 gIx (eV 2) (e2 gSub (eV 3) (eC (.int 1))))))
def B_borders : M Fl := (sSeq (sDrop (eCall F_need_signs (aCons (eV 0) aNil)))
  (sSeq (sSetM 1 (eN gLst aNil))
  (sSeq (sIf (tB (e2 gNe (eV 0) (eN gLst aNil))) (sSeq (sSet 2 (eCall F_greatest_borders (aCons (eV 0) aNil)))
  (sSeq (sSet 3 (e2 gIx (eV 2) (e1 gNeg (eC (.int 1)))))
  (sSeq (sWhile T_borders_l1 B_borders_l2 WFUEL)
  (sApp 1 (eC (.int 0)))))) sSkip)
  (sRet (e1 gRev (eV 1))))))
def F_borders : List D → FR := runF 4 B_borders
def B__law_letters_l1 : M Fl := (sSeq (sSet 4 (eCallW F__law_take 0 (aCons (eN gLen (aCons (eV 1) aNil)) aNil)))
  (sSeq (sSet 2 (eF (e2 gAdd (eV 2) (e2 gIx (eV 1) (eV 4)))))
  (sSet 1 (e2 gAdd (eSl (eV 1) oNone (oSome (eV 4))) (eSl (eV 1) (oSome (e2 gAdd (eV 4) (eC (.int 1)))) oNone)))))
def B__law_letters : M Fl := (sSeq (sSet 1 (eC (.str (Str.ofString "abcdefghijklmnopqrstuvwxyz"))))
  (sSeq (sSet 2 (eC (.str (Str.ofString ""))))
  (sSeq (sFor (iN gR1 (aCons (e2 gIx (eN gLst (aCons (eC (.int 2)) (aCons (eC (.int 3)) (aCons (eC (.int 5)) (aCons (eC (.int 26)) aNil))))) (eCallW F__law_take 0 (aCons (eC (.int 4)) aNil))) aNil)) (tgN 3) B__law_letters_l1)
  (sRet (eV 2)))))
def F__law_letters : List D → FR := runF 5 B__law_letters
def B__law_signs : M Fl := (sRet (eF (eLc [3] (iN gR1 (aCons (eV 2) aNil)) (tgN 3) tTrue (e2 gIx (eV 1) (eCallW F__law_take 0 (aCons (eN gLen (aCons (eV 1) aNil)) aNil))))))
def F__law_signs : List D → FR := runF 4 B__law_signs
def B__law_laid_l1 : M Fl := (sSeq (sSet 6 (e2 gIx (eV 4) (eCallW F__law_take 0 (aCons (eN gLen (aCons (eV 4) aNil)) aNil))))
  (sIf (tB (e2 gLe (e2 gSub (e2 gAdd (eN gLen (aCons (eV 3) aNil)) (eN gLen (aCons (eV 1) aNil))) (eV 6)) (eV 2))) (sSet 3 (eF (e2 gAdd (eV 3) (eSl (eV 1) (oSome (eV 6)) oNone)))) sSkip))
def B__law_laid : M Fl := (sSeq (sSet 3 (eF (eN gList1 (aCons (eV 1) aNil))))
  (sSeq (sSet 4 (eCall F__law_ends (aCons (eV 1) aNil)))
  (sSeq (sFor (iN gR1 (aCons (e2 gAdd (eC (.int 1)) (eCallW F__law_take 0 (aCons (eC (.int 6)) aNil))) aNil)) (tgN 5) B__law_laid_l1)
  (sRet (eV 3)))))
def F__law_laid : List D → FR := runF 7 B__law_laid
def B_periods : M Fl := (sRet (eLc [1] (iL (e1 gRev (eCall F_borders (aCons (eV 0) aNil)))) (tgN 1) tTrue (e2 gSub (eN gLen (aCons (eV 0) aNil)) (eV 1))))
def F_periods : List D → FR := runF 2 B_periods
def B__law_text_l1 : M Fl := (sSetM 3 (eCallW F__law_laid 0 (aCons (eV 3) (aCons (eV 2) aNil))))
def B__law_text : M Fl := (sSeq (sSet 2 (e2 gIx (eN gLst (aCons (eC (.int 40)) (aCons (eC (.int 200)) aNil))) (eN gInt1 (aCons (e2 gEq (eCallW F__law_take 0 (aCons (eC (.int 16)) aNil)) (eC (.int 3))) aNil))))
  (sSeq (sIf (tB (e2 gEq (eCallW F__law_take 0 (aCons (eC (.int 4)) aNil)) (eC (.int 0)))) (sRet (eCallW F__law_signs 0 (aCons (eV 1) (aCons (eCallW F__law_take 0 (aCons (e2 gAdd (eV 2) (eC (.int 1))) aNil)) aNil)))) sSkip)
  (sSeq (sSetM 3 (eCallW F__law_signs 0 (aCons (eV 1) (aCons (e2 gAdd (eC (.int 1)) (eCallW F__law_take 0 (aCons (eC (.int 4)) aNil))) aNil))))
  (sSeq (sFor (iN gR1 (aCons (e2 gAdd (eC (.int 1)) (eCallW F__law_take 0 (aCons (eC (.int 4)) aNil))) aNil)) (tgN 4) B__law_text_l1)
  (sSeq (sSet 5 (eCallW F__law_take 0 (aCons (eC (.int 5)) aNil)))
  (sSeq (sSet 6 (eCallW F__law_take 0 (aCons (eN gLen (aCons (eV 3) aNil)) aNil)))
  (sSeq (sIf (tB (e2 gEq (eV 5) (eC (.int 1)))) (sPut 3 (eS (e2 gIx (eV 1) (eCallW F__law_take 0 (aCons (eN gLen (aCons (eV 1) aNil)) aNil)))) (eV 6)) sSkip)
  (sRet (e2 gIx (eN gLst (aCons (eV 3) (aCons (eV 3) (aCons (eSl (eV 3) oNone (oSome (e2 gAdd (eV 6) (eC (.int 1))))) (aCons (eSl (eV 3) (oSome (eV 6)) oNone) (aCons (eV 3) aNil)))))) (eS (eV 5)))))))))))
def F__law_text : List D → FR := runF 7 B__law_text
def B_need_word : M Fl := (sIf (tB (e2 gEq (eV 0) (eN gLst aNil))) (sRaise (Str.ofString "NoWord")) sSkip)
def F_need_word : List D → FR := runF 1 B_need_word
def B_laid_at : M Fl := (sSeq (sSet 2 (eN gLen (aCons (eV 1) aNil)))
  (sRet (eF (eLc [3] (iN gR1 (aCons (e2 gAdd (e2 gSub (eN gLen (aCons (eV 0) aNil)) (eV 2)) (eC (.int 1))) aNil)) (tgN 3) (tB (e2 gEq (eSl (eV 0) (oSome (eV 3)) (oSome (e2 gAdd (eV 3) (eV 2)))) (eV 1))) (eV 3)))))
def F_laid_at : List D → FR := runF 4 B_laid_at
def B__law_lies_l1 : M Fl := (sIf (tB (e2 gEq (eLc [4] (iN gR1 (aCons (eN gLen (aCons (eV 1) aNil)) aNil)) (tgN 4) (tB (e2 gNe (e2 gIx (eV 0) (e2 gAdd (eV 3) (eV 4))) (e2 gIx (eV 1) (eV 4)))) (eV 4)) (eN gLst aNil))) (sApp 2 (eS (eV 3))) sSkip)
def B__law_lies : M Fl := (sSeq (sSetM 2 (eN gLst aNil))
  (sSeq (sFor (iN gR1 (aCons (e2 gAdd (e2 gSub (eN gLen (aCons (eV 0) aNil)) (eN gLen (aCons (eV 1) aNil))) (eC (.int 1))) aNil)) (tgN 3) B__law_lies_l1)
  (sRet (eV 2))))
def F__law_lies : List D → FR := runF 5 B__law_lies
def B_lies_at : M Fl := (sSeq (sDrop (eCall F_need_word (aCons (eV 1) aNil)))
  (sSeq (sDrop (eCall F_need_signs (aCons (e2 gAdd (eV 0) (eV 1)) aNil)))
  (sRet (eCall F_laid_at (aCons (eV 0) (aCons (eV 1) aNil))))))
def F_lies_at : List D → FR := runF 2 B_lies_at
def B__law_right_l1 : M Fl := (sSeq (sSetM 5 (eCall F_lies_at (aCons (e2 gIx (eV 3) (eC (.int 0))) (aCons (e2 gIx (eV 3) (eC (.int 1))) aNil))))
  (sSeq (sIf (tOr2 (tNot1 (tB (eCall F__law_wholes (aCons (eV 5) (aCons (eV 2) aNil))))) (tB (e2 gNe (eV 3) (eN gTupD (aCons (eV 0) (aCons (eV 1) aNil)))))) (sRet (eC (.bl false))) sSkip)
  (sApp 5 (eC (.int 0)))))
def B__law_right : M Fl := (sSeq (sSet 2 (eCall F__law_lies (aCons (eV 0) (aCons (eV 1) aNil))))
  (sSeq (sSet 3 (eN gTupD (aCons (eN gList1 (aCons (eV 0) aNil)) (aCons (eN gList1 (aCons (eV 1) aNil)) aNil))))
  (sSeq (sFor (iN gR1 (aCons (eC (.int 2)) aNil)) (tgN 4) B__law_right_l1)
  (sRet (eC (.bl true))))))
def F__law_right : List D → FR := runF 6 B__law_right
end Ov
namespace MV
open PySem PySem.Spec PyProof.Rows L2
def PostO (cf : Cf) (W : WX) (R : Rs) (Hs : Hp) (i : Nat) (D : Ends) : Res Fl → Prop
  | .ok (.rt d) env' => ∀ v Hs' σ' H' F' wf', Ex Hs Hs' → Rel cf R Hs' env' σ' H' F' wf' → Own cf.K (TH (rs Hs' R.H0)) H' (F' i) v d → D.rt v H'
  | .ok .nx env' => ∀ Hs' σ' H' F' wf', Ex Hs Hs' → Rel cf R Hs' env' σ' H' F' wf' → D.nx σ' H'
  | .ex x env' => ∀ Hs' σ' H' F' wf', Ex Hs Hs' → Rel cf R Hs' env' σ' H' F' wf' → W (cf.cv x) none σ' H'
  | _ => False
theorem PostO.mono {cf : Cf} {W : WX} {R : Rs} {i : Nat} {Hs Hs' : Hp} {D : Ends} (e : Ex Hs Hs') : ∀ {g : Res Fl}, PostO cf W R Hs i D g → PostO cf W R Hs' i D g
  | .ok (.rt d) _, h => fun v Hs2 σ' H' F' wf' e2 r o => h v Hs2 σ' H' F' wf' (e.trans e2) r o
  | .ex _ _, h => fun Hs2 σ' H' F' wf' e2 r => h Hs2 σ' H' F' wf' (e.trans e2) r
  | .ok .nx _, h => fun Hs2 σ' H' F' wf' e2 r => h Hs2 σ' H' F' wf' (e.trans e2) r
  | .ok .bk _, h => h.elim
  | .ok .ct _, h => h.elim
  | .stuck, h => h.elim
section
variable {X : Cx} {cf : Cf} {W : WX} {c : Cls} {n n1 n2 : Bool} {i j : Nat}
end
section
variable {P : Program} {w : World} {K : PySem.W.Frag} {mg : Str → Option Value} {base : Heap}
end
end MV
namespace MV
open PySem PySem.Spec PyProof.Rows L2
def PostB (cf : Cf) (W : WX) (R : Rs) (Hs : Hp) (j : Nat) (σ : L2.St) (p : Addr) (xs : List V) (F : Nat → List Addr) (wf : List Addr) (D : Ends) : Res Fl → Prop
  | .ok .nx env' => ∀ Hs' H', Ex Hs Hs' → Rel cf R Hs' env' σ H' F wf → H' p = some (.lst xs) → env'[j]? = some none → D.nx σ H'
  | .ok (.rt d) env' => ∀ v Hs' H', Ex Hs Hs' → Rel cf R Hs' env' σ H' F wf → Rp cf.K true (rs (rm H' wf) R.H0) v d → D.rt v H'
  | .ex x env' => ∀ Hs' H', Ex Hs Hs' → Rel cf R Hs' env' σ H' F wf → W (cf.cv x) none σ H'
  | _ => False
theorem PostB.mono {cf : Cf} {W : WX} {R : Rs} {Hs Hs' : Hp} {j : Nat} {σ : L2.St} {p : Addr} {xs : List V} {F : Nat → List Addr} {wf : List Addr} {D : Ends} (e : Ex Hs Hs') : ∀ {g : Res Fl}, PostB cf W R Hs j σ p xs F wf D g → PostB cf W R Hs' j σ p xs F wf D g
  | .ok .nx _, h => fun Hs2 H' e2 r => h Hs2 H' (e.trans e2) r
  | .ok (.rt d) _, h => fun v Hs2 H' e2 r => h v Hs2 H' (e.trans e2) r
  | .ex _ _, h => fun Hs2 H' e2 r => h Hs2 H' (e.trans e2) r
  | .ok .bk _, h => h.elim
  | .ok .ct _, h => h.elim
  | .stuck, h => h.elim
section
variable {cf : Cf} {R : Rs} {Hs H : Hp} {env : PEnv} {σ : L2.St} {F : Nat → List Addr} {wf : List Addr}
theorem Rel.drop (r : Rel cf R Hs env σ H F wf) {j : Nat} (hw : cf.kd j ≠ .W) : Rel cf R Hs (env.set j none) σ H F wf where
  len := by rw [List.length_set]; exact r.len
  exs := r.exs
  ex0 := r.ex0
  dom0 := r.dom0
  slot := fun i d h => by
    rcases get_set h with ⟨rfl, e, hl⟩ | ⟨ne, h⟩
    · cases e
    · exact r.slot i d h
  nod := r.nod
  dis := r.dis
  fdom := r.fdom
  uns := r.uns
  new := r.new
  volw := r.volw
  volb := r.volb
  wdom := r.wdom
  ior := fun p h => by
    obtain ⟨h1, h2, h3, d', h4⟩ := r.ior p h
    have ne : j ≠ 0 := fun e => by subst e; exact hw h3
    exact ⟨h1, h2, h3, d', by rw [List.getElem?_set_ne ne]; exact h4⟩
theorem Rel.any (r : Rel cf R Hs env σ H F wf) {j : Nat} {v : V} (hj : env[j]? = some none) (hw : cf.kd j ≠ .W) : Rel cf R Hs env (σ.set j (some v)) H F wf where
  len := by rw [List.length_set]; exact r.len
  exs := r.exs
  ex0 := r.ex0
  dom0 := r.dom0
  slot := fun i d h => by
    have ne : j ≠ i := fun e => by subst e; rw [hj] at h; cases h
    obtain ⟨w, h1, h2⟩ := r.slot i d h
    exact ⟨w, by rw [List.getElem?_set_ne ne]; exact h1, h2⟩
  nod := r.nod
  dis := r.dis
  fdom := r.fdom
  uns := r.uns
  new := r.new
  volw := r.volw
  volb := r.volb
  wdom := r.wdom
  ior := fun p h => by
    obtain ⟨h1, h2, h3, d', h4⟩ := r.ior p h
    have ne : j ≠ 0 := fun e => by subst e; exact hw h3
    exact ⟨by rw [List.getElem?_set_ne ne]; exact h1, h2, h3, d', h4⟩
end
section
variable {X : Cx} {cf : Cf} {W : WX} {c : Cls} {n n1 n2 : Bool} {i j : Nat}
theorem OwnL.row {K : PySem.W.Frag} {T H : Hp} (hT : NL T) {F : List Addr} {xs : List V} {ds : List D} {k : Nat} {es : List D} {v : V} (h : OwnL K T H F xs ds) (nd : F.Nodup) (hk : ds[k]? = some (.lst es)) (hv : xs[k]? = some v) :
    ∃ q ys Fq, v = .ref q ∧ H q = some (.lst ys) ∧ q ∈ F ∧ OwnL K T H Fq ys es ∧ ∀ ys' es', (∀ H', (∀ a ∈ Fq, H' a = H a) → OwnL K T H' Fq ys' es') → OwnL K T (upd H q (.lst ys')) F xs (ds.set k (.lst es')) := by
  obtain ⟨q, ys, Fq, h1, h2⟩ := h.within hT nd k es hk
  rw [h1] at hv; cases hv
  exact ⟨q, ys, Fq, rfl, h2⟩
end
end MV
namespace Ov
open PySem MV
end Ov
namespace MV
open PySem PySem.Spec PyProof.Rows L2
section
variable {cf : Cf} {R : Rs} {Hs : Hp} {env : PEnv} {σ : L2.St} {H : Hp} {F : Nat → List Addr} {wf : List Addr}
theorem Rel.ext {env1 : PEnv} {Hs1 H1 : Hp} (r : Rel cf R Hs env σ H F wf) (s1 : Stp cf wf env Hs H env1 Hs1 H1) (r1 : Rel cf R Hs1 env1 σ H1 F wf) {i : Nat} {p : Addr} {o' : HO} {v : V} {d0 d' : D} {Fn : List Addr} (hw : cf.kd i ≠ .W) (hp : p ∈ F i) (he : env1[i]? = some (some d0)) (hv : σ[i]? = some (some v))
    (hn : Fn.Nodup) (hnew : ∀ a ∈ Fn, H a = none ∧ H1 a ≠ none) (hs : SlotR cf.K R (rm Hs1 Fn) (upd H1 p o') (F i ++ Fn) (cf.kd i) v d') : Rel cf R (rm Hs1 Fn) (env1.set i (some d')) σ (upd H1 p o') (fun j => if j = i then F i ++ Fn else F j) wf ∧ Ex Hs (rm Hs1 Fn) := by
  have old : ∀ a, H a ≠ none → a ∉ Fn := fun a h m => h (hnew a m).1
  have exs : Ex Hs (rm Hs1 Fn) := fun a o h => by
    have : a ∉ Fn := old a (by rw [r.exs a o h]; exact fun z => by cases z)
    unfold rm
    rw [if_neg this]
    exact s1.ex a o h
  have sub : Ex (rm Hs1 Fn) Hs1 := rm_sub _ _
  have pS : Hs1 p = none := r1.uns i p hp
  have hu : ∀ a, H1 a ≠ none → upd H1 p o' a ≠ none := fun a h => by
    by_cases e : a = p
    · subst e; rw [upd_same]; exact fun z => by cases z
    · rw [upd_ne e]; exact h
  have memE : ∀ {j : Nat} {a : Addr}, a ∈ (if j = i then F i ++ Fn else F j) → a ∈ F j ∨ (j = i ∧ a ∈ Fn) := fun {j a} m => by
    by_cases e : j = i
    · subst e; rw [if_pos rfl] at m; exact (List.mem_append.mp m).imp id fun m => ⟨rfl, m⟩
    · rw [if_neg e] at m; exact .inl m
  refine ⟨?_, exs⟩
  constructor
  case len => rw [List.length_set]; exact r1.len
  case exs =>
    intro a o h
    have h := sub a o h
    rw [upd_ne (fun e => by subst e; rw [pS] at h; cases h)]
    exact r1.exs a o h
  case ex0 => exact fun a o h n => exs a o (r.ex0 a o h n)
  case dom0 => exact fun a h => hu a (r1.dom0 a h)
  case slot =>
    intro j d'' h
    rcases get_set h with ⟨rfl, e, hl⟩ | ⟨ne, h⟩
    · cases e
      exact ⟨v, hv, by rw [if_pos rfl]; exact hs⟩
    · obtain ⟨w, h1, h2⟩ := r1.slot j d'' h
      refine ⟨w, h1, ?_⟩
      rw [if_neg (Ne.symm ne)]
      have np : ∀ a ∈ F j, a ≠ p := fun a m e => by subst e; exact r.dis i j ne _ hp m
      by_cases hw : cf.kd j = .W
      · rw [hw] at h2 ⊢
        obtain ⟨p2, xs, ds, e1, e2, e3, e4, e5⟩ := h2
        exact ⟨p2, xs, ds, e1, e2, e3, by rw [upd_ne (np p2 (by rw [e3]; exact List.mem_singleton.mpr rfl))]; exact e4, e5⟩
      · have h' : env[j]? = some (some d'') := by rw [← s1.kp j hw]; exact h
        obtain ⟨w0, g1, g2⟩ := r.slot j d'' h'
        have ew : w0 = w := by rw [g1] at h1; cases h1; rfl
        subst ew
        have kp : ∀ a ∈ F j, ∀ o, H a = some o → upd H1 p o' a = some o := fun a m o ha => by
          rw [upd_ne (np a m)]; exact s1.keep a o (r.volb j hw a m) ha
        cases q : cf.kd j with
        | S => rw [q] at g2; exact Rp.mono exs g2
        | N => rw [q] at g2; exact Rp.mono (rs_mono exs) g2
        | Q => rw [q] at g2; exact Rp.mono exs g2
        | P => rw [q] at g2; exact Own.keep (th_mono (rs_mono exs)) g2 kp
        | M => rw [q] at g2; exact ⟨Own.keep (rs_mono exs) g2.1 kp, g2.2⟩
        | W => exact absurd q hw
  case nod =>
    intro j
    by_cases e : j = i
    · rw [if_pos e]
      exact List.nodup_append.mpr ⟨r.nod i, hn, fun a m b m2 e => by subst e; exact r.fdom i a m (hnew a m2).1⟩
    · rw [if_neg e]; exact r.nod j
  case dis =>
    intro j k ne a m m2
    rcases memE m with m | ⟨e, m⟩
    · rcases memE m2 with m2 | ⟨e2, m2⟩
      · exact r.dis j k ne a m m2
      · exact r.fdom j a m (hnew a m2).1
    · rcases memE m2 with m2 | ⟨e2, m2⟩
      · exact r.fdom k a m2 (hnew a m).1
      · exact ne (e.trans e2.symm)
  case fdom =>
    intro j a m
    rcases memE m with m | ⟨e, m⟩
    · exact hu a (r1.fdom j a m)
    · exact hu a (hnew a m).2
  case uns =>
    intro j a m
    rcases memE m with m | ⟨e, m⟩
    · unfold rm
      split
      · rfl
      · exact r1.uns j a m
    · unfold rm; rw [if_pos m]
  case new =>
    intro j a m
    rcases memE m with m | ⟨e, m⟩
    · exact r.new j a m
    · refine .inr ?_
      cases q : R.H0 a with
      | none => rfl
      | some o => exact absurd (hnew a m).1 (r.dom0 a (by rw [q]; exact fun z => by cases z))
  case volw =>
    intro j hk a m
    rcases memE m with m | ⟨e, m⟩
    · exact r.volw j hk a m
    · subst e; exact absurd hk hw
  case volb =>
    intro j hk a m z
    rcases memE m with m | ⟨e, m⟩
    · exact r.volb j hk a m z
    · exact (r.wdom a z).1 (hnew a m).1
  case wdom =>
    intro a m
    obtain ⟨g1, g2⟩ := r1.wdom a m
    refine ⟨hu a g1, ?_⟩
    unfold rm
    split
    · rfl
    · exact g2
  case ior =>
    intro q h
    obtain ⟨h1, h2, h3, d2, h4⟩ := r1.ior q h
    have ne : (0 : Nat) ≠ i := fun e => by subst e; exact hw h3
    exact ⟨h1, by rw [if_neg ne]; exact h2, h3, d2, by rw [List.getElem?_set_ne (Ne.symm ne)]; exact h4⟩
end
mutual
def D.tuo : D → Bool
  | .tup ds => tuoL ds
  | d => d.sc
def tuoL : List D → Bool
  | [] => true
  | d :: ds => D.tuo d && tuoL ds
end
mutual
theorem Rp.th {K : PySem.W.Frag} {G : Hp} : ∀ {v : V} {d : D}, Rp K true G v d → d.tuo = true → Rp K true (TH G) v d
  | _, _, .sc h, _ => .sc h
  | _, _, .tup h r, t => .tup (th_tup h) (RpL.th r (by rw [D.tuo] at t; exact t))
  | _, _, .lst h r, t => by rw [D.tuo] at t; · cases t
                            · intro _ z; cases z
  | _, _, .dic h l r, t => by rw [D.tuo] at t; · cases t
                              · intro _ z; cases z
  | _, _, .dit h l r, t => by rw [D.tuo] at t; · cases t
                              · intro _ z; cases z
  | _, _, .exc h, t => by rw [D.tuo] at t; · cases t
                          · intro _ z; cases z
theorem RpL.th {K : PySem.W.Frag} {G : Hp} : ∀ {vs : List V} {ds : List D}, RpL K true G vs ds → tuoL ds = true → RpL K true (TH G) vs ds
  | _, _, .nil, _ => .nil
  | _, _, .cons h r, t => by
    rw [tuoL, Bool.and_eq_true] at t
    exact .cons (Rp.th h t.1) (RpL.th r t.2)
end
section
variable {X : Cx} {cf : Cf} {W : WX} {c : Cls} {n n1 n2 : Bool}
end
end MV
namespace MV
open PySem PySem.Spec PyProof.Rows L2
section
variable {X : Cx} {cf : Cf} {W : WX} {c : Cls} {n n1 n2 : Bool}
end
section
variable {X : Cx} {P : Program} {w : World} {K : PySem.W.Frag} {tg : Expr} {d : Addr} {o : Obj} {es : Array DictEntry} {ep : Nat}
end
end MV
namespace MV
open PySem PySem.Spec PyProof.Rows L2
section
variable {K : PySem.W.Frag} {G G' : Hp} {p : Addr} {kvs : List (List Key × V)}
structure Swp (G G' : Hp) (p : Addr) (kvs : List (List Key × V)) : Prop where
  a : Rd G p (.dT kvs)
  b : Rd G' p (.dT kvs)
  off : ∀ q, q ≠ p → G' q = G q
theorem Swp.ne {q : Addr} {o : HO} (s : Swp G G' p kvs) (h : G q = some o) (n1 : o ≠ .dT kvs) (n2 : ∀ ob, o ≠ .frz ob (.dT kvs)) : q ≠ p := fun e => by
  subst e
  rcases s.a with z | ⟨ob, z⟩
  · rw [z] at h; cases h; exact n1 rfl
  · rw [z] at h; cases h; exact n2 ob rfl
theorem Swp.rs {B : Hp} (s : Swp G G' p kvs) (h : B p = none) : Swp (rs G B) (rs G' B) p kvs := by
  refine ⟨?_, ?_, fun q n => ?_⟩
  · unfold Rd; rw [rs_none h]; exact s.a
  · unfold Rd; rw [rs_none h]; exact s.b
  · cases z : B q with
    | none => rw [rs_none z, rs_none z]; exact s.off q n
    | some u => rw [rs_some z, rs_some z]
theorem swp_sql {x : Bool} {a : Addr} {xs : List V} (s : Swp G G' p kvs) (h : SqLx K x G a xs) : SqLx K x G' a xs := by
  cases x with
  | true =>
    have h : G a = some (.lst xs) := h
    show G' a = some (.lst xs)
    rw [s.off a (s.ne h (fun z => by cases z) fun _ z => by cases z)]; exact h
  | false =>
    rcases h with (h | ⟨o, h⟩) | h
    · exact .inl (.inl (by rw [s.off a (s.ne h (fun z => by cases z) fun _ z => by cases z)]; exact h))
    · exact .inl (.inr ⟨o, by rw [s.off a (s.ne h (fun z => by cases z) fun _ z => by cases z)]; exact h⟩)
    · exact .inr h
theorem swp_sqt {x : Bool} {a : Addr} {xs : List V} (s : Swp G G' p kvs) (h : SqTx K x G a xs) : SqTx K x G' a xs := by
  cases x with
  | true =>
    have h : G a = some (.tup xs) := h
    show G' a = some (.tup xs)
    rw [s.off a (s.ne h (fun z => by cases z) fun _ z => by cases z)]; exact h
  | false =>
    rcases h with (h | ⟨o, h⟩) | h
    · exact .inl (.inl (by rw [s.off a (s.ne h (fun z => by cases z) fun _ z => by cases z)]; exact h))
    · exact .inl (.inr ⟨o, by rw [s.off a (s.ne h (fun z => by cases z) fun _ z => by cases z)]; exact h⟩)
    · exact .inr h
theorem swp_dqk {x : Bool} {a : Addr} {ks : List (Key × V)} (s : Swp G G' p kvs) (h : DqK x G a ks) : DqK x G' a ks := by
  cases x with
  | true =>
    have h : G a = some (.dK ks) := h
    show G' a = some (.dK ks)
    rw [s.off a (s.ne h (fun z => by cases z) fun _ z => by cases z)]; exact h
  | false =>
    obtain ⟨o, h⟩ := h
    exact ⟨o, by rw [s.off a (s.ne h (fun z => by cases z) fun _ z => by cases z)]; exact h⟩
theorem swp_rd {a : Addr} {ks : List (List Key × V)} (s : Swp G G' p kvs) (h : Rd G a (.dT ks)) : Rd G' a (.dT ks) := by
  by_cases e : a = p
  · subst e
    have : ks = kvs := by
      rcases s.a with z | ⟨ob, z⟩ <;> rcases h with h | ⟨ob2, h⟩ <;> rw [z] at h <;> cases h <;> rfl
    rw [this]; exact s.b
  · unfold Rd; rw [s.off a e]; exact h
theorem swp_exh {a : Addr} {c : Value} (s : Swp G G' p kvs) (h : G a = some (ExH c a)) : G' a = some (ExH c a) := by
  rw [s.off a (s.ne h (fun z => by cases z) fun _ z => by cases z)]; exact h
mutual
theorem Rp.swp {x : Bool} (s : Swp G G' p kvs) : ∀ {v : V} {d : D}, Rp K x G v d → Rp K x G' v d
  | _, _, .sc h => .sc h
  | _, _, .lst h r => .lst (swp_sql s h) (RpL.swp s r)
  | _, _, .tup h r => .tup (swp_sqt s h) (RpL.swp s r)
  | _, _, .dic h l r => .dic (swp_dqk s h) l (RpL.swp s r)
  | _, _, .dit h l r => .dit (swp_rd s h) l (RpL.swp s r)
  | _, _, .exc h => .exc (swp_exh s h)
theorem RpL.swp {x : Bool} (s : Swp G G' p kvs) : ∀ {vs : List V} {ds : List D}, RpL K x G vs ds → RpL K x G' vs ds
  | _, _, .nil => .nil
  | _, _, .cons h r => .cons (Rp.swp s h) (RpL.swp s r)
end
end
mutual
theorem Own.keepR {K : PySem.W.Frag} {Hn Hn' H H' : Hp} (en : ∀ v d, Rp K true Hn v d → Rp K true Hn' v d) : ∀ {F : List Addr} {v : V} {d : D}, Own K Hn H F v d → (∀ a ∈ F, ∀ o, H a = some o → H' a = some o) → Own K Hn' H' F v d
  | _, _, _, .leaf h, _ => .leaf (en _ _ h)
  | _, _, _, .lst h r, e => .lst (e _ List.mem_cons_self _ h) (OwnL.keepR en r fun a m => e a (List.mem_cons_of_mem _ m))
  | _, _, _, .tup h r, e => .tup (e _ List.mem_cons_self _ h) (OwnL.keepR en r fun a m => e a (List.mem_cons_of_mem _ m))
  | _, _, _, .dic h l r, e => .dic (e _ List.mem_cons_self _ h) l (OwnL.keepR en r fun a m => e a (List.mem_cons_of_mem _ m))
  | _, _, _, .dit h l r, e => .dit (e _ List.mem_cons_self _ h) l (OwnL.keepR en r fun a m => e a (List.mem_cons_of_mem _ m))
theorem OwnL.keepR {K : PySem.W.Frag} {Hn Hn' H H' : Hp} (en : ∀ v d, Rp K true Hn v d → Rp K true Hn' v d) : ∀ {F : List Addr} {vs : List V} {ds : List D}, OwnL K Hn H F vs ds → (∀ a ∈ F, ∀ o, H a = some o → H' a = some o) → OwnL K Hn' H' F vs ds
  | _, _, _, .nil, _ => .nil
  | _, _, _, .cons h r, e => .cons (Own.keepR en h fun a m => e a (List.mem_append_left _ m)) (OwnL.keepR en r fun a m => e a (List.mem_append_right _ m))
end
theorem th_swp {G G' : Hp} {p : Addr} {kvs : List (List Key × V)} (s : Swp G G' p kvs) : Ex (TH G) (TH G') := fun a o h => by
  obtain ⟨xs, rfl, q⟩ := th_some h
  exact th_tup (by rw [s.off a (s.ne q (fun z => by cases z) fun _ z => by cases z)]; exact q)
section
variable {cf : Cf} {R : Rs} {Hs H : Hp} {env : PEnv} {σ : L2.St} {F : Nat → List Addr} {wf : List Addr} {p : Addr} {kvs : List (List Key × V)}
theorem swp_upd {o : HO} (a : Rd Hs p (.dT kvs)) (b : o = .dT kvs ∨ ∃ ob, o = .frz ob (.dT kvs)) : Swp Hs (upd Hs p o) p kvs :=
  ⟨a, by rcases b with rfl | ⟨ob, rfl⟩; · exact .inl upd_same
         · exact .inr ⟨ob, upd_same⟩, fun q n => upd_ne n⟩
theorem Rel.swp (r : Rel cf R Hs env σ H F wf) (a : Rd Hs p (.dT kvs)) (h0 : R.H0 p = none) {o : HO} (b : o = .dT kvs ∨ ∃ ob, o = .frz ob (.dT kvs)) : Rel cf R (upd Hs p o) env σ (upd H p o) F wf := by
  have s := swp_upd a b
  have pS : Hs p ≠ none := by rcases a with z | ⟨_, z⟩ <;> rw [z] <;> exact fun z => by cases z
  have nF : ∀ {i : Nat} {x : Addr}, x ∈ F i → x ≠ p := fun {i x} m e => by subst e; exact pS (r.uns i x m)
  have nW : ∀ {x : Addr}, x ∈ wf → x ≠ p := fun {x} m e => by subst e; exact pS (r.wdom x m).2
  have own : ∀ (i : Nat), ∀ x ∈ F i, ∀ o', H x = some o' → upd H p o x = some o' := fun i x m o' e => by rw [upd_ne (nF m)]; exact e
  refine
    { len := r.len
      exs := fun x o' h => by
        by_cases q : x = p
        · subst q; rw [upd_same] at h ⊢; exact h
        · rw [upd_ne q] at h ⊢; exact r.exs x o' h
      ex0 := fun x o' h n => by
        have q : x ≠ p := fun e => by subst e; rw [h0] at h; cases h
        rw [upd_ne q]; exact r.ex0 x o' h n
      dom0 := fun x h => by
        by_cases q : x = p
        · subst q; rw [upd_same]; exact fun z => by cases z
        · rw [upd_ne q]; exact r.dom0 x h
      slot := fun i d h => ?_
      nod := r.nod
      dis := r.dis
      fdom := fun i x m => by rw [upd_ne (nF m)]; exact r.fdom i x m
      uns := fun i x m => by rw [upd_ne (nF m)]; exact r.uns i x m
      new := r.new
      volw := r.volw
      volb := r.volb
      wdom := fun x m => by rw [upd_ne (nW m), upd_ne (nW m)]; exact r.wdom x m
      ior := r.ior }
  obtain ⟨v, h1, h2⟩ := r.slot i d h
  refine ⟨v, h1, ?_⟩
  have sr := s.rs (B := R.H0) h0
  cases q : cf.kd i with
  | S => rw [q] at h2; exact h2.swp s
  | Q => rw [q] at h2; exact h2.swp s
  | N => rw [q] at h2; exact h2.swp sr
  | P => rw [q] at h2; exact h2.keep (th_swp sr) (own i)
  | M => rw [q] at h2; exact ⟨h2.1.keepR (fun v d h => h.swp sr) (own i), h2.2⟩
  | W =>
    rw [q] at h2
    obtain ⟨p', xs, ds, e1, e2, e3, e4, e5⟩ := h2
    exact ⟨p', xs, ds, e1, e2, e3, own i p' (by rw [e3]; exact List.mem_cons_self) _ e4, e5⟩
end
def nox : Res Fl → Res Fl
  | .ex _ _ => .stuck
  | r => r
section
variable {X : Cx} {cf : Cf} {W : WX} {c : Cls} {n n1 n2 : Bool}
def Lk (D : Ends) (p : Addr) (z u : HO) : Ends := ⟨fun σ' H' => H' p = some z ∧ D.nx σ' (upd H' p u), fun v H' => H' p = some z ∧ D.rt v (upd H' p u), fun σ' H' => H' p = some z ∧ D.bk σ' (upd H' p u), fun σ' H' => H' p = some z ∧ D.ct σ' (upd H' p u)⟩
theorem Post.lk {R : Rs} {Hs : Hp} {D : Ends} {p : Addr} {kvs : List (List Key × V)} {od : Obj} {g : Res Fl} (hu : Hs p = some (.dT kvs)) (h0 : R.H0 p = none) (hp : Post cf W R Hs D (nox g)) : Post cf W R (upd Hs p (.frz od (.dT kvs))) (Lk D p (.frz od (.dT kvs)) (.dT kvs)) g := by
  have ex : ∀ {Hs' : Hp}, Ex (upd Hs p (.frz od (.dT kvs))) Hs' → Hs' p = some (.frz od (.dT kvs)) ∧ Ex Hs (upd Hs' p (.dT kvs)) := fun {Hs'} e => ⟨e _ _ upd_same, fun a o h => by
    by_cases q : a = p
    · subst q; rw [upd_same]; rw [hu] at h; exact h
    · rw [upd_ne q]; exact e a o (by rw [upd_ne q]; exact h)⟩
  have th : ∀ {Hs' H' : Hp} {env' : PEnv} {σ' : L2.St} {F' : Nat → List Addr} {wf' : List Addr}, Ex (upd Hs p (.frz od (.dT kvs))) Hs' → Rel cf R Hs' env' σ' H' F' wf' → H' p = some (.frz od (.dT kvs)) ∧ Rel cf R (upd Hs' p (.dT kvs)) env' σ' (upd H' p (.dT kvs)) F' wf' := fun {Hs' H' env' σ' F' wf'} e r' => by
    obtain ⟨e1, e2⟩ := ex e
    exact ⟨r'.exs _ _ e1, r'.swp (.inr ⟨od, e1⟩) h0 (.inl rfl)⟩
  cases g with
  | stuck => exact hp
  | ex x e => exact hp.elim
  | ok f env' =>
    cases f with
    | nx => exact fun Hs' σ' H' F' wf' e r' => ⟨(th e r').1, hp _ σ' _ F' wf' (ex e).2 (th e r').2⟩
    | bk => exact fun Hs' σ' H' F' wf' e r' => ⟨(th e r').1, hp _ σ' _ F' wf' (ex e).2 (th e r').2⟩
    | ct => exact fun Hs' σ' H' F' wf' e r' => ⟨(th e r').1, hp _ σ' _ F' wf' (ex e).2 (th e r').2⟩
    | rt d =>
      intro v Hs' σ' H' F' wf' e r' pv
      obtain ⟨q1, q2⟩ := th e r'
      refine ⟨q1, hp v _ σ' _ F' wf' (ex e).2 q2 ?_⟩
      have nw : p ∉ wf' := fun m => by
        have := (r'.wdom p m).2
        rw [(ex e).1] at this
        cases this
      have s1 : Rd (rm H' wf') p (.dT kvs) := by unfold Rd rm; rw [if_neg nw]; exact .inr ⟨od, q1⟩
      have s2 : Rd (rm (upd H' p (.dT kvs)) wf') p (.dT kvs) := by unfold Rd rm; rw [if_neg nw, upd_same]; exact .inl rfl
      have s : Swp (rm H' wf') (rm (upd H' p (.dT kvs)) wf') p kvs := ⟨s1, s2, fun q n => by
        unfold rm
        split
        · rfl
        · exact upd_ne n⟩
      exact pv.swp (s.rs (B := R.H0) h0)
end
end MV
namespace Ov
open PySem MV
end Ov
namespace Ov
open PySem (Str)
open MV
def Hd (l : List Int) : Prop := ∃ x y, l = [x, y] ∧ 0 ≤ y ∧ y < 2147483647
theorem take_pos {x y m : Int} (hx : 0 < x) (hm : 0 < m) (hm2 : m < 1073741824) : F__law_take [dI [x, y], .int m] = .ok (.int (x % m)) (dI [x / m, y]) := by
  have hd : L2.CDiv x m := ⟨hm, hm2⟩
  simp [F__law_take, r_runF, B__law_take, L2.atI, L2.ixN, hx, hm, hd]
theorem take_neg {x y m : Int} (hx : ¬ 0 < x) (hy : 0 ≤ y) (hy2 : y < 2147483647) (hm : 0 < m) : F__law_take [dI [x, y], .int m] = .ok (.int ((y * 48271 % 2147483647 + 1) ^ 7 / 8 % m)) (dI [x, y * 48271 % 2147483647]) := by
  have hd : ∀ z, L2.CDiv z 8 := fun z => ⟨by decide, by decide⟩
  have hp : L2.CPow (y * 48271 % 2147483647 + 1) 7 := ⟨by decide, by decide, by omega⟩
  have hq : mulOk y 48271 = true := by simp [mulOk, L2.CMul]
  simp [F__law_take, r_runF, B__law_take, L2.atI, L2.ixN, hx, hm, hd, hp, hq]
theorem take_ok {h : List Int} {m : Int} (hh : Hd h) (hm : 0 < m) (hm2 : m < 1073741824) : ∃ (r : Nat) (h' : List Int), F__law_take [dI h, .int m] = .ok (.int r) (dI h') ∧ (r : Int) < m ∧ Hd h' := by
  obtain ⟨x, y, rfl, h1, h2⟩ := hh
  by_cases hx : 0 < x
  · refine ⟨(x % m).toNat, [x / m, y], ?_, ?_, x / m, y, rfl, h1, h2⟩
    · rw [take_pos hx hm hm2, Int.toNat_of_nonneg (Int.emod_nonneg _ (by omega))]
    · rw [Int.toNat_of_nonneg (Int.emod_nonneg _ (by omega))]; exact Int.emod_lt_of_pos _ hm
  · refine ⟨((y * 48271 % 2147483647 + 1) ^ 7 / 8 % m).toNat, [x, y * 48271 % 2147483647], ?_, ?_, x, _, rfl, Int.emod_nonneg _ (by decide), Int.emod_lt_of_pos _ (by decide)⟩
    · rw [take_neg hx h1 h2 hm, Int.toNat_of_nonneg (Int.emod_nonneg _ (by omega))]
    · rw [Int.toNat_of_nonneg (Int.emod_nonneg _ (by omega))]; exact Int.emod_lt_of_pos _ hm
theorem hand_ok (c : Int) : ∃ h io, F__law_hand [.int c] = .ok (dI h) io ∧ Hd h := by
  have hp : L2.CPow 10 18 := ⟨by decide, by decide, by decide⟩
  have hq : ∀ k : Bool, mulOk (c % 2147483629 + 1) (if k then 1 else 0) = true := fun k => by
    unfold mulOk L2.CMul
    rw [Bool.or_eq_true]
    exact .inl (decide_eq_true (.inl ⟨by omega, by omega⟩))
  refine ⟨[if c - 10 ^ 18 > 0 then c - 10 ^ 18 else 0, (c % 2147483629 + 1) * (if (!decide (c = 10 ^ 18)) = true then 1 else 0)], .int c, ?_, _, _, rfl, ?_, ?_⟩
  · have hq1 : mulOk (c % 2147483629 + 1) 1 = true := hq true
    have hq0 : mulOk (c % 2147483629 + 1) 0 = true := hq false
    have hsz : (2 : Nat) ≤ PySem.sizeLine := by decide
    simp [F__law_hand, r_runF, B__law_hand, hp, hsz]
    by_cases hc : c = 1000000000000000000
    · subst hc; simp [show mulOk 918494962 0 = true from by simp [mulOk, L2.CMul]]
    · simp [hc, hq1]
  · by_cases hc : (!decide (c = 10 ^ 18)) = true
    · rw [if_pos hc]; omega
    · rw [if_neg hc]; omega
  · by_cases hc : (!decide (c = 10 ^ 18)) = true
    · rw [if_pos hc]; omega
    · rw [if_neg hc]; omega
def Lt (z : Str) (n : Nat) : Prop := z.cps.size = n ∧ ∀ c ∈ z.cps.toList, 97 ≤ c ∧ c ≤ 122
theorem lt_all : Lt (Str.ofString "abcdefghijklmnopqrstuvwxyz") 26 := ⟨by decide +kernel, by decide +kernel⟩
theorem lt_nil : Lt (Str.ofString "") 0 := ⟨by decide +kernel, by decide +kernel⟩
theorem Lt.len {z : Str} {n : Nat} (h : Lt z n) : z.length = n := h.1
theorem Lt.at {z : Str} {n r : Nat} (h : Lt z n) (hr : r < n) : ∃ c, L2.atI z.cps.toList (r : Int) = some c ∧ Sg ⟨#[c]⟩ := by
  rw [atI_eq]
  have hl : r < z.cps.toList.length := by rw [Array.length_toList, h.1]; exact hr
  rw [List.getElem?_eq_getElem hl]
  obtain ⟨h1, h2⟩ := h.2 _ (List.getElem_mem hl)
  exact ⟨_, rfl, _, rfl, h1, h2⟩
theorem cps_app (x y : Str) : (x ++ y).cps.toList = x.cps.toList ++ y.cps.toList := by
  show (x.cps ++ y.cps).toList = _
  simp
theorem Lt.app {z : Str} {n : Nat} (h : Lt z n) {c : Nat} (hc : Sg ⟨#[c]⟩) : Lt (z ++ ⟨#[c]⟩) (n + 1) := by
  obtain ⟨c', e, h1, h2⟩ := hc
  cases e
  refine ⟨?_, fun d hd => ?_⟩
  · rw [← Array.length_toList, cps_app, List.length_append, Array.length_toList, h.1]; rfl
  · rw [cps_app] at hd
    rcases List.mem_append.mp hd with hd | hd
    · exact h.2 d hd
    · have : d = c := by simpa using hd
      subst this; exact ⟨h1, h2⟩
theorem cps_cut (z : Str) (lo hi : Option Int) : (L2.cutS z lo hi).cps.toList = cutA z.cps.toList lo hi := by
  unfold L2.cutS cutA
  simp [PySem.Str.length]
theorem Lt.cut {z : Str} {n r : Nat} (h : Lt z (n + 1)) (hr : r < n + 1) : Lt (L2.cutS z none (some (r : Int)) ++ L2.cutS z (some ((r : Int) + 1)) none) n := by
  have e : (L2.cutS z none (some (r : Int)) ++ L2.cutS z (some ((r : Int) + 1)) none).cps.toList = z.cps.toList.take r ++ z.cps.toList.drop (r + 1) := by
    rw [cps_app, cps_cut, cps_cut, cutA_to, show ((r : Int) + 1) = ((r + 1 : Nat) : Int) by omega, cutA_from]
  refine ⟨?_, fun c hc => ?_⟩
  · rw [← Array.length_toList, e, List.length_append, List.length_take, List.length_drop, Array.length_toList, h.1]; omega
  · rw [e] at hc
    rcases List.mem_append.mp hc with hc | hc
    · exact h.2 c (List.mem_of_mem_take hc)
    · exact h.2 c (List.mem_of_mem_drop hc)
theorem Lt.cut_len {z : Str} {n r : Nat} (h : Lt z (n + 1)) (hr : r < n + 1) : (L2.cutS z none (some (r : Int))).length + (L2.cutS z (some ((r : Int) + 1)) none).length ≤ LIM ∨ ¬ n ≤ 100 := by
  have h1 := L2.cutS_length z none (some (r : Int))
  have h2 := L2.cutS_length z (some ((r : Int) + 1)) none
  rw [h.len] at h1 h2
  show _ ≤ 100000 ∨ _
  omega
theorem letters_loop {z : Str} : ∀ (n : Nat), n ≤ 26 → ∀ (h : List Int), Hd h → ∃ f h' e3 e4 z', sForL (tgN 3) B__law_letters_l1 (rngD 0 n) [some (dI h), some (.str (Str.ofString "abcdefghijklmnopqrstuvwxyz")), some (.str (Str.ofString "")), none, none] = .ok .nx [some (dI h'), some (.str z'), some (.str f), e3, e4] ∧ Hd h' ∧ Lt f n := by
  intro n hn h hh
  obtain ⟨e', h1, h', z', f, e3, e4, h2, h3, h4, h5⟩ := for_inv (tg := tgN 3) (b := B__law_letters_l1) (ds := rngD 0 n) (e := [some (dI h), some (.str (Str.ofString "abcdefghijklmnopqrstuvwxyz")), some (.str (Str.ofString "")), none, none])
    (fun i e => ∃ h' z' f e3 e4, e = [some (dI h'), some (.str z'), some (.str f), e3, e4] ∧ Hd h' ∧ Lt f i ∧ (i ≤ 26 → Lt z' (26 - i)))
    ⟨h, _, _, none, none, rfl, hh, lt_nil, fun _ => lt_all⟩ (fun i d e hd hi => by
      obtain ⟨h', z', f, e3, e4, rfl, hh', hf, hz⟩ := hi
      have hi : i < n := by
        have := (List.getElem?_eq_some_iff.mp hd).1
        rw [rngD_len] at this; exact this
      have hz := hz (by omega)
      obtain ⟨r, h'', t1, t2, t3⟩ := take_ok (m := (26 - i : Nat)) hh' (by omega) (by omega)
      obtain ⟨c, c1, c2⟩ := hz.at (r := r) (by omega)
      have hz' : Lt z' ((25 - i) + 1) := by rw [show 25 - i + 1 = 26 - i by omega]; exact hz
      have cl := (hz'.cut_len (r := r) (by omega)).resolve_right (by omega)
      have l1 : z'.length ≤ LIM := by rw [hz.len]; show _ ≤ 100000; omega
      have l2 : f.length + (⟨#[c]⟩ : Str).length ≤ LIM := by
        rw [hf.len]; show i + 1 ≤ 100000; omega
      refine ⟨_, _, .nx, rfl, ?_, .inl rfl, ⟨h'', L2.cutS z' none (some (r : Int)) ++ L2.cutS z' (some ((r : Int) + 1)) none, f ++ ⟨#[c]⟩, some d, some (.int r), rfl, t3, hf.app c2, fun _ => by
        have := hz'.cut (r := r) (by omega)
        rw [show 26 - (i + 1) = 25 - i by omega]; exact this⟩⟩
      have t1' : F__law_take [dI h', .int (z'.length : Int)] = .ok (.int r) (dI h'') := by rw [hz.len]; exact t1
      simp [B__law_letters_l1, l1, t1', c1, l2, cl])
  rw [rngD_len] at h4
  exact ⟨f, h', e3, e4, z', by rw [h1, h2], h3, h4⟩
theorem letters_ok {h : List Int} (hh : Hd h) : ∃ z n h', F__law_letters [dI h] = .ok (.str z) (dI h') ∧ Lt z n ∧ 2 ≤ n ∧ n ≤ 26 ∧ Hd h' := by
  obtain ⟨r, h1, t1, t2, t3⟩ := take_ok (m := 4) hh (by decide) (by decide)
  have hsz : (4 : Nat) ≤ PySem.sizeLine := by decide
  obtain ⟨n, hn1, hn2, hn3⟩ : ∃ n : Nat, L2.atI [D.int 2, D.int 3, D.int 5, D.int 26] (r : Int) = some (.int n) ∧ 2 ≤ n ∧ n ≤ 26 := by
    rw [atI_eq]
    have : r = 0 ∨ r = 1 ∨ r = 2 ∨ r = 3 := by omega
    rcases this with rfl | rfl | rfl | rfl
    · exact ⟨2, rfl, by decide, by decide⟩
    · exact ⟨3, rfl, by decide, by decide⟩
    · exact ⟨5, rfl, by decide, by decide⟩
    · exact ⟨26, rfl, by decide, by decide⟩
  obtain ⟨f, h', e3, e4, z', h2, h3, h4⟩ := letters_loop (z := default) n hn3 h1 t3
  have hs : smallI (n : Int) = true := decide_eq_true (by omega)
  refine ⟨f, n, h', ?_, h4, hn2, hn3, h3⟩
  simp [F__law_letters, r_runF, B__law_letters, t1, hsz, hn1, hs, h2]
end Ov
namespace Ov
open PySem (Str)
open MV
theorem sign_at {z : Str} {n : Nat} (hz : Lt z n) (hn : 2 ≤ n) (hn2 : n ≤ 26) {h : List Int} (hh : Hd h) : ∃ r h' x, F__law_take [dI h, .int (z.length : Int)] = .ok (.int r) (dI h') ∧ Hd h' ∧ gIx (.str z) (.int r) = some (.str x) ∧ Sg x := by
  obtain ⟨r, h', t1, t2, t3⟩ := take_ok (m := n) hh (by omega) (by omega)
  obtain ⟨c, c1, c2⟩ := hz.at (r := r) (by omega)
  refine ⟨r, h', ⟨#[c]⟩, by rw [hz.len]; exact t1, t3, ?_, c2⟩
  have l1 : z.length ≤ LIM := by rw [hz.len]; show _ ≤ 100000; omega
  simp [l1, c1]
theorem signs_ok {z : Str} {n : Nat} (hz : Lt z n) (hn : 2 ≤ n) (hn2 : n ≤ 26) {h : List Int} (hh : Hd h) {m : Nat} (hm : m ≤ 1000) : ∃ t h', F__law_signs [dI h, .str z, .int m] = .ok (dT t) (dI h') ∧ Tx t ∧ t.length = m ∧ Hd h' := by
  obtain ⟨acc, e', h1, ⟨t, h', rfl, rfl, q1, q2, q3⟩⟩ := lc_inv (is := [3]) (tg := tgN 3) (t := tTrue) (fe := e2 gIx (eV 1) (eCallW F__law_take 0 (aCons (eN gLen (aCons (eV 1) aNil)) aNil))) (ds := rngD 0 m)
    (fun i acc e => ∃ t h', acc = t.map .str ∧ e = [some (dI h'), some (.str z), some (.int m), none] ∧ Tx t ∧ t.length = i ∧ Hd h')
    [] [some (dI h), some (.str z), some (.int m), none] ⟨[], h, rfl, rfl, (fun _ hx => by cases hx), rfl, hh⟩ (by rw [rngD_len]; show 0 + m ≤ 100000; omega)
    (fun i d acc e hd hi => by
      obtain ⟨t, h', rfl, rfl, q1, q2, q3⟩ := hi
      obtain ⟨r, h2, x, t1, t2, t3, t4⟩ := sign_at hz hn hn2 q3
      have l1 : z.length ≤ LIM := by rw [hz.len]; show _ ≤ 100000; omega
      refine ⟨_, _, true, rfl, rfl, fun _ => ⟨.str x, [some (dI h2), some (.str z), some (.int m), some d], ?_, t ++ [x], h2, by simp, rfl, q1.append (fun y hy => by rw [List.mem_singleton.mp hy]; exact t4), by simp [q2], t2⟩, fun h => by cases h⟩
      rw [gIx_s, if_pos l1] at t3
      simp [l1, t1, t3, -Option.map_eq_some_iff])
  rw [rngD_len] at q2
  refine ⟨t, h', ?_, q1, q2, q3⟩
  have hs : smallI (m : Int) = true := small_of (by omega) (by omega)
  simp only [F__law_signs, r_runF, B__law_signs]
  simp [hs, h1]
def bord (t : List Str) : List Nat := (List.range t.length).filter fun k => decide (t.take k = t.drop (t.length - k))
theorem ends_val {t : List Str} (ht : Tx t) (hl : t.length ≤ 1000) : F__law_ends [dT t] = .ok (dN (bord t)) (dT t) := by
  have hs : smallI (t.length : Int) = true := small_of (by omega) (by omega)
  have h1 := lc_nat (is := [1]) (tg := tgN 1) (t := tB (e2 gEq (eSl (eV 0) oNone (oSome (eV 1))) (eSl (eV 0) (oSome (e2 gSub (eN gLen (aCons (eV 0) aNil)) (eV 1))) oNone))) (fe := eV 1) (e := [some (dT t), none]) (fun k => decide (t.take k = t.drop (t.length - k))) (fun k => .int (k : Int)) (List.range t.length) (by rw [List.length_range]; show _ ≤ 100000; omega)
    (fun k hk => by
      rw [List.mem_range] at hk
      refine ⟨_, [some (dT t), some (.int k)], rfl, ?_, fun _ => ⟨_, rfl, rfl⟩, fun _ => rfl⟩
      have e1 : ((t.length : Int) - (k : Int)) = ((t.length - k : Nat) : Int) := by omega
      simp [cutA_map, cutA_to, e1, cutA_from, gEq_dT (ht.take k).ok (ht.drop (t.length - k)).ok, -List.map_take, -List.map_drop])
  simp only [F__law_ends, r_runF, B__law_ends]
  simp [hs, rng0, h1, bord]
end Ov
namespace Ov
open PySem (Str)
open MV
theorem bord_pos {t : List Str} (h : t ≠ []) : 0 < (bord t).length := by
  apply List.length_pos_of_mem (a := 0)
  unfold bord
  rw [List.mem_filter, List.mem_range]
  refine ⟨List.length_pos_iff.mpr h, ?_⟩
  simp
theorem bord_lt {t : List Str} {k : Nat} (h : k ∈ bord t) : k < t.length := by
  unfold bord at h
  rw [List.mem_filter, List.mem_range] at h
  exact h.1
theorem bord_len (t : List Str) : (bord t).length ≤ t.length := by
  unfold bord
  exact Nat.le_trans (List.length_filter_le _ _) (by rw [List.length_range]; exact Nat.le_refl _)
theorem laid_ok {w : List Str} (hw : Tx w) (hw0 : w ≠ []) {most : Nat} (hm : w.length ≤ most) (hm2 : most ≤ 1000) {h : List Int} (hh : Hd h) : ∃ t h', F__law_laid [dI h, dT w, .int most] = .ok (dT t) (dI h') ∧ Tx t ∧ w.length ≤ t.length ∧ t.length ≤ most ∧ Hd h' := by
  obtain ⟨r0, h0, a1, a2, a3⟩ := take_ok (m := 6) hh (by decide) (by decide)
  have hs : smallI (1 + (r0 : Int)) = true := small_of (by omega) (by omega)
  have hb := bord_pos hw0
  have hbl := bord_len w
  obtain ⟨e', h1, h', f, e5, e6, rfl, q1, q2, q3, q4⟩ := for_inv (tg := tgN 5) (b := B__law_laid_l1) (ds := rngD 0 (1 + (r0 : Int)).toNat) (e := [some (dI h0), some (dT w), some (.int most), some (dT w), some (dN (bord w)), none, none])
    (fun _ e => ∃ h' f e5 e6, e = [some (dI h'), some (dT w), some (.int most), some (dT f), some (dN (bord w)), e5, e6] ∧ Hd h' ∧ Tx f ∧ w.length ≤ f.length ∧ f.length ≤ most)
    ⟨h0, w, none, none, rfl, a3, hw, Nat.le_refl _, hm⟩
    (fun i d e hd hi => by
      obtain ⟨h', f, e5, e6, rfl, q1, q2, q3, q4⟩ := hi
      obtain ⟨r, h2, t1, t2, t3⟩ := take_ok (m := ((bord w).length : Nat)) q1 (by omega) (by omega)
      have hr : r < (bord w).length := by omega
      have hat : L2.atI ((bord w).map fun k : Nat => D.int (k : Int)) (r : Int) = some (.int ((bord w)[r] : Nat)) := by
        rw [atI_eq, List.getElem?_map, List.getElem?_eq_getElem hr]; rfl
      have hlt := bord_lt (List.getElem_mem hr)
      generalize (bord w)[r] = k at hat hlt
      by_cases hc : (f.length : Int) + (w.length : Int) - (k : Int) ≤ (most : Int)
      · refine ⟨_, [some (dI h2), some (dT w), some (.int most), some (dT (f ++ w.drop k)), some (dN (bord w)), some d, some (.int k)], .nx, rfl, ?_, .inl rfl, h2, f ++ w.drop k, _, _, rfl, t3, q2.append (hw.drop k), ?_, ?_⟩
        · have hL : f.length + (w.length - k) ≤ LIM := by show _ ≤ 100000; omega
          simp [B__law_laid_l1, t1, hat, hc, cutA_map, cutA_from, hL, ← List.map_drop, ← List.map_append, -List.map_append, flat_dT, List.all_map]
          rw [List.map_append]
        · rw [List.length_append]; omega
        · rw [List.length_append, List.length_drop]; omega
      · refine ⟨_, [some (dI h2), some (dT w), some (.int most), some (dT f), some (dN (bord w)), some d, some (.int k)], .nx, rfl, ?_, .inl rfl, h2, f, _, _, rfl, t3, q2, q3, q4⟩
        simp [B__law_laid_l1, t1, hat, hc])
  refine ⟨f, h', ?_, q2, q3, q4, q1⟩
  simp only [F__law_laid, r_runF, B__law_laid]
  simp [ends_val hw (by omega), a1, hs, h1, List.all_map]
theorem text_loop {z : Str} {most : Nat} (hm2 : most ≤ 1000) (n : Nat) {h : List Int} (hh : Hd h) {t : List Str} (ht : Tx t) (ht0 : 0 < t.length) (htm : t.length ≤ most) : ∃ h' t' e4, sForL (tgN 4) B__law_text_l1 (rngD 0 n) [some (dI h), some (.str z), some (.int most), some (dT t), none, none, none] = .ok .nx [some (dI h'), some (.str z), some (.int most), some (dT t'), e4, none, none] ∧ Hd h' ∧ Tx t' ∧ 0 < t'.length ∧ t'.length ≤ most := by
  obtain ⟨e', h1, h', t', e4, rfl, q⟩ := for_inv (tg := tgN 4) (b := B__law_text_l1) (ds := rngD 0 n) (e := [some (dI h), some (.str z), some (.int most), some (dT t), none, none, none])
    (fun _ e => ∃ h' t' e4, e = [some (dI h'), some (.str z), some (.int most), some (dT t'), e4, none, none] ∧ Hd h' ∧ Tx t' ∧ 0 < t'.length ∧ t'.length ≤ most)
    ⟨h, t, none, rfl, hh, ht, ht0, htm⟩
    (fun i d e hd hi => by
      obtain ⟨h', t', e4, rfl, q1, q2, q3, q4⟩ := hi
      obtain ⟨t2, h2, a1, a2, a3, a4, a5⟩ := laid_ok q2 (List.length_pos_iff.mp q3) q4 hm2 q1
      refine ⟨_, [some (dI h2), some (.str z), some (.int most), some (dT t2), some d, none, none], .nx, rfl, ?_, .inl rfl, h2, t2, _, rfl, a5, a2, by omega, a4⟩
      simp [B__law_text_l1, a1, List.all_map])
  exact ⟨h', t', e4, h1, q⟩
theorem text_ok {z : Str} {n : Nat} (hz : Lt z n) (hn : 2 ≤ n) (hn2 : n ≤ 26) {h : List Int} (hh : Hd h) : ∃ t h', F__law_text [dI h, .str z] = .ok (dT t) (dI h') ∧ Tx t ∧ t.length ≤ 200 ∧ Hd h' := by
  obtain ⟨r1, h1, a1, a2, a3⟩ := take_ok (m := 16) hh (by decide) (by decide)
  obtain ⟨r2, h2, b1, b2, b3⟩ := take_ok (m := 4) a3 (by decide) (by decide)
  have hsz : (2 : Nat) ≤ PySem.sizeLine := by decide
  have hsz5 : (5 : Nat) ≤ PySem.sizeLine := by decide
  obtain ⟨most, hmo, hm1, hm2⟩ : ∃ most : Nat, L2.atI [D.int 40, D.int 200] (if (r1 : Int) = 3 then 1 else 0) = some (.int most) ∧ 40 ≤ most ∧ most ≤ 200 := by
    by_cases hc : (r1 : Int) = 3
    · rw [if_pos hc]; exact ⟨200, rfl, by decide, by decide⟩
    · rw [if_neg hc]; exact ⟨40, rfl, by decide, by decide⟩
  by_cases hr : r2 = 0
  · subst hr
    obtain ⟨r3, h3, c1, c2, c3⟩ := take_ok (m := most + 1) b3 (by omega) (by omega)
    obtain ⟨t, h4, d1, d2, d3, d4⟩ := signs_ok hz hn hn2 c3 (m := r3) (by omega)
    refine ⟨t, h4, ?_, d2, by omega, d4⟩
    simp only [F__law_text, r_runF, B__law_text]
    simp [a1, hsz, hmo, b1, c1, d1]
  · obtain ⟨r3, h3, c1, c2, c3⟩ := take_ok (m := 4) b3 (by decide) (by decide)
    obtain ⟨t, h4, d1, d2, d3, d4⟩ := signs_ok hz hn hn2 c3 (m := 1 + r3) (by omega)
    obtain ⟨r5, h5, f1, f2, f3⟩ := take_ok (m := 4) d4 (by decide) (by decide)
    obtain ⟨h6, t', e4, g1, g2, g3, g4, g5⟩ := text_loop (z := z) (most := most) (by omega) (1 + (r5 : Int)).toNat f3 d2 (by omega) (by omega)
    obtain ⟨r7, h7, i1, i2, i3⟩ := take_ok (m := 5) g2 (by decide) (by decide)
    obtain ⟨r8, h8, j1, j2, j3⟩ := take_ok (m := t'.length) i3 (by omega) (by omega)
    obtain ⟨r9, h9, x, k1, k2, k3, k4⟩ := sign_at hz hn hn2 j3
    have l1 : z.length ≤ LIM := by rw [hz.len]; show _ ≤ 100000; omega
    have hs : smallI (1 + (r5 : Int)) = true := small_of (by omega) (by omega)
    have hj : r8 < t'.length := by omega
    rw [gIx_s, if_pos l1] at k3
    have d1' : F__law_signs [dI h3, .str z, .int (1 + (r3 : Int))] = .ok (dT t) (dI h4) := by
      rw [show (1 + (r3 : Int)) = ((1 + r3 : Nat) : Int) by omega]; exact d1
    have e8 : ((r8 : Int) + 1) = ((r8 + 1 : Nat) : Int) := by omega
    have hr' : ¬ (r2 : Int) = 0 := by omega
    have h7c : r7 = 0 ∨ r7 = 1 ∨ r7 = 2 ∨ r7 = 3 ∨ r7 = 4 := by omega
    rcases h7c with rfl | rfl | rfl | rfl | rfl
    · refine ⟨t', h8, ?_, g3, by omega, j3⟩
      simp only [F__law_text, r_runF, B__law_text]
      simp [a1, hsz, hsz5, hmo, b1, hr, c1, d1', f1, hs, g1, i1, j1, List.all_map]
    · refine ⟨t'.set r8 x, h9, ?_, g3.set k4 r8, by rw [List.length_set]; omega, k2⟩
      simp only [F__law_text, r_runF, B__law_text]
      simp [a1, hsz, hsz5, hmo, b1, hr, c1, d1', f1, hs, g1, i1, j1, l1, k1, k3, ixN_nat hj, List.all_map, List.map_set, -Option.map_eq_some_iff]
    · refine ⟨t'.take (r8 + 1), h8, ?_, g3.take _, by rw [List.length_take]; omega, j3⟩
      simp only [F__law_text, r_runF, B__law_text]
      simp [a1, hsz, hsz5, hmo, b1, hr, c1, d1', f1, hs, g1, i1, j1, List.all_map, cutA_map, cutA_to1]
    · refine ⟨t'.drop r8, h8, ?_, g3.drop _, by rw [List.length_drop]; omega, j3⟩
      simp only [F__law_text, r_runF, B__law_text]
      simp [a1, hsz, hsz5, hmo, b1, hr, c1, d1', f1, hs, g1, i1, j1, List.all_map, cutA_map, cutA_from]
    · refine ⟨t', h8, ?_, g3, by omega, j3⟩
      simp only [F__law_text, r_runF, B__law_text]
      simp [a1, hsz, hsz5, hmo, b1, hr, c1, d1', f1, hs, g1, i1, j1, List.all_map]
end Ov
namespace Ov
open PySem (Str)
open MV
theorem sg_in {x : Str} (h : Sg x) : x.length = 1 ∧ gNotIn (.str x) (.str (Str.ofString "abcdefghijklmnopqrstuvwxyz")) = some (.bl false) := by
  obtain ⟨c, rfl, h1, h2⟩ := h
  refine ⟨rfl, ?_⟩
  have : ∀ c : Nat, 97 ≤ c → c ≤ 122 → c ∈ (Str.ofString "abcdefghijklmnopqrstuvwxyz").cps.toList := by
    have : ∀ k : Fin 26, (97 + k.val) ∈ (Str.ofString "abcdefghijklmnopqrstuvwxyz").cps.toList := by decide +kernel
    intro c h1 h2
    have := this ⟨c - 97, by omega⟩
    simpa [show 97 + (c - 97) = c by omega] using this
  have := this c h1 h2
  show (inOk _ _).map _ = _
  unfold inOk
  simp [this]
theorem need_signs_val {t : List Str} (ht : Tx t) (hl : t.length ≤ LIM) : F_need_signs [dT t] = .ok .non (dT t) := by
  have h1 := lc_pure (is := [1]) (tg := tgN 1) (t := tOr2 (tB (e2 gNe (eN gLen (aCons (eV 1) aNil)) (eC (.int 1)))) (tB (e2 gNotIn (eV 1) (eC (.str (Str.ofString "abcdefghijklmnopqrstuvwxyz")))))) (fe := eV 1) (e := [some (dT t), none]) (φ := D.str) (p := fun _ => false) (g := D.str) t [] (by simpa using hl)
    (fun x hx => ⟨_, [some (dT t), some (.str x)], rfl, by
      obtain ⟨q1, q2⟩ := sg_in (ht x hx)
      have l1 : (1 : Nat) ≤ LIM := by decide
      simp [q1, l1, q2], (fun h => by cases h), fun _ => rfl⟩)
  rw [filter_no] at h1
  simp only [F_need_signs, r_runF, B_need_signs]
  simp [h1, hsz0]
theorem need_word_val {w : List Str} (hw : Tx w) (h0 : w ≠ []) : F_need_word [dT w] = .ok .non (dT w) := by
  simp only [F_need_word, r_runF, B_need_word]
  simp [hsz0, gEq_nT hw.ok, h0]
def lies (t w : List Str) : List Nat := (List.range (t.length + 1 - w.length)).filter fun p => decide ((t.drop p).take w.length = w)
theorem lies_len (t w : List Str) : (lies t w).length ≤ t.length + 1 := by
  unfold lies
  exact Nat.le_trans (List.length_filter_le _ _) (by rw [List.length_range]; omega)
theorem laid_at_val {t w : List Str} (ht : Tx t) (hw : Tx w) (hl : t.length ≤ 1000) (hl2 : w.length ≤ 1000) : F_laid_at [dT t, dT w] = .ok (dN (lies t w)) (dT t) := by
  have hs : smallI ((t.length : Int) - (w.length : Int) + 1) = true := small_of (by omega) (by omega)
  have h1 := lc_nat (is := [3]) (tg := tgN 3) (t := tB (e2 gEq (eSl (eV 0) (oSome (eV 3)) (oSome (e2 gAdd (eV 3) (eV 2)))) (eV 1))) (fe := eV 3) (e := [some (dT t), some (dT w), some (.int w.length), none]) (fun p => decide ((t.drop p).take w.length = w)) (fun k => .int (k : Int)) (List.range (t.length + 1 - w.length)) (by rw [List.length_range]; show _ ≤ 100000; omega)
    (fun k hk => by
      refine ⟨_, [some (dT t), some (dT w), some (.int w.length), some (.int k)], rfl, ?_, fun _ => ⟨_, rfl, rfl⟩, fun _ => rfl⟩
      have := gEq_dT ((ht.drop k).take w.length).ok hw.ok
      simp [cutA_map, cutA_mid2, this, -List.map_take, -List.map_drop])
  have e1 : ((t.length : Int) - (w.length : Int) + 1).toNat = t.length + 1 - w.length := by omega
  simp only [F_laid_at, r_runF, B_laid_at]
  simp [hs, rng0, e1, h1, lies]
theorem lies_at_val {t w : List Str} (ht : Tx t) (hw : Tx w) (h0 : w ≠ []) (hl : t.length ≤ 1000) (hl2 : w.length ≤ 1000) : F_lies_at [dT t, dT w] = .ok (dN (lies t w)) (dT t) := by
  have hL : t.length + w.length ≤ LIM := by show _ ≤ 100000; omega
  have hn := need_signs_val (ht.append hw) (by rw [List.length_append]; exact hL)
  simp only [F_lies_at, r_runF, B_lies_at]
  have hn : F_need_signs [.lst (t.map D.str ++ w.map D.str)] = .ok .non (dT (t ++ w)) := by rw [← List.map_append]; exact hn
  simp [need_word_val hw h0, hL, hn, laid_at_val ht hw hl hl2]
theorem take_drop_iff {t w : List Str} {p : Nat} (h : p + w.length ≤ t.length) : (t.drop p).take w.length = w ↔ ∀ k, k < w.length → t[p + k]? = w[k]? := by
  constructor
  · intro e k hk
    rw [← List.getElem?_drop]
    conv => rhs; rw [← e]
    rw [List.getElem?_take, if_pos hk]
  · intro e
    apply List.ext_getElem?
    intro k
    rw [List.getElem?_take]
    by_cases hk : k < w.length
    · rw [if_pos hk, List.getElem?_drop]; exact e k hk
    · rw [if_neg hk, List.getElem?_eq_none (by omega)]
theorem range_filter_succ (p : Nat → Bool) (n : Nat) : (List.range (n + 1)).filter p = (List.range n).filter p ++ if p n = true then [n] else [] := by
  rw [List.range_succ, List.filter_append]
  by_cases h : p n = true
  · simp [h]
  · simp [h]
end Ov
namespace Ov
open PySem (Str PyData)
open MV
theorem Tx.cut {t : List Str} (h : Tx t) (lo hi : Option Int) : Tx (cutA t lo hi) := by
  unfold cutA; exact (Tx.drop h _).take _
end Ov
namespace Ov
open PySem (Str)
open MV
section
variable {α : Type} [DecidableEq α]
def isB (t : List α) (n k : Nat) : Prop := k < n ∧ n ≤ t.length ∧ ∀ j, j < k → t[j]? = t[n - k + j]?
def isG (t : List α) (n g : Nat) : Prop := isB t n g ∧ ∀ k, isB t n k → k ≤ g
variable {t : List α} {n k m g : Nat}
theorem isB_zero (h : 0 < n) (h2 : n ≤ t.length) : isB t n 0 := ⟨h, h2, fun j hj => by omega⟩
theorem isB_trans (h : isB t n k) (h2 : isB t k m) : isB t n m := by
  obtain ⟨a1, a2, a3⟩ := h
  obtain ⟨b1, b2, b3⟩ := h2
  refine ⟨by omega, a2, fun j hj => ?_⟩
  rw [b3 j hj, a3 (k - m + j) (by omega)]
  congr 1; omega
theorem isB_down (h : isB t n k) (h2 : isB t n m) (hl : m < k) : isB t k m := by
  obtain ⟨a1, a2, a3⟩ := h
  obtain ⟨b1, b2, b3⟩ := h2
  refine ⟨hl, by omega, fun j hj => ?_⟩
  rw [b3 j hj, a3 (k - m + j) (by omega)]
  congr 1; omega
theorem isB_succ (hn : n < t.length) : isB t (n + 1) (k + 1) ↔ isB t n k ∧ t[k]? = t[n]? := by
  constructor
  · intro ⟨a1, a2, a3⟩
    refine ⟨⟨by omega, by omega, fun j hj => ?_⟩, ?_⟩
    · rw [a3 j (by omega)]; congr 1; omega
    · rw [a3 k (by omega)]; congr 1; omega
  · intro ⟨⟨a1, a2, a3⟩, a4⟩
    refine ⟨by omega, by omega, fun j hj => ?_⟩
    by_cases q : j = k
    · subst q; rw [a4]; congr 1; omega
    · rw [a3 j (by omega)]; congr 1; omega
theorem isG_one (h : 0 < t.length) : isG t 1 0 := ⟨isB_zero (by decide) h, fun k hk => by have := hk.1; omega⟩
theorem isB_iff (h : k < t.length) : isB t t.length k ↔ t.take k = t.drop (t.length - k) := by
  constructor
  · intro ⟨a1, a2, a3⟩
    apply List.ext_getElem?
    intro j
    rw [List.getElem?_take, List.getElem?_drop]
    by_cases q : j < k
    · rw [if_pos q]; exact a3 j q
    · rw [if_neg q, List.getElem?_eq_none (by omega)]
  · intro e
    refine ⟨h, Nat.le_refl _, fun j hj => ?_⟩
    have := congrArg (fun l => l[j]?) e
    simp only [List.getElem?_take, List.getElem?_drop] at this
    rw [if_pos hj] at this
    exact this
end
theorem filter_ge {p : Nat → Bool} {n k : Nat} (hk : k < n) (hp : p k = true) : (List.range n).filter (fun j => p j && decide (k ≤ j)) = k :: (List.range n).filter (fun j => p j && decide (k < j)) := by
  induction n with
  | zero => omega
  | succ n ih =>
    rw [range_filter_succ, range_filter_succ]
    by_cases q : k = n
    · subst q
      have e1 : (List.range k).filter (fun j => p j && decide (k ≤ j)) = [] := by
        rw [List.filter_eq_nil_iff]; intro j hj; rw [List.mem_range] at hj; simp; intro _; omega
      have e2 : (List.range k).filter (fun j => p j && decide (k < j)) = [] := by
        rw [List.filter_eq_nil_iff]; intro j hj; rw [List.mem_range] at hj; simp; intro _; omega
      rw [e1, e2]
      simp [hp]
    · rw [ih (by omega)]
      have h1 : k ≤ n := by omega
      have h2 : k < n := by omega
      simp [h1, h2]
theorem rev_range (n : Nat) : ((List.range n).reverse.map fun k => n - k) = List.range' 1 n := by
  apply List.ext_getElem?
  intro i
  by_cases h : i < n
  · rw [List.getElem?_map, List.getElem?_reverse (by simpa using h), List.getElem?_range' h]
    simp
    rw [List.getElem?_range (by omega)]
    simp; omega
  · rw [List.getElem?_eq_none (by simp; omega), List.getElem?_eq_none (by simp; omega)]
theorem rev_filter {n : Nat} {p q : Nat → Bool} (h : ∀ k, k < n → p k = q (n - k)) : (((List.range n).filter p).reverse.map fun k => n - k) = (List.range' 1 n).filter q := by
  rw [← rev_range, List.filter_map, ← List.filter_reverse]
  congr 1
  apply List.filter_congr
  intro k hk
  rw [List.mem_reverse, List.mem_range] at hk
  exact h k hk
end Ov
namespace Ov
open PySem (Str)
open MV
theorem enum_get {t : List Str} {i : Nat} {d : D} (h : (enumD (t.map D.str))[i]? = some d) : ∃ hi : i < t.length, d = .tup [.int (i : Int), .str t[i]] := by
  have hi : i < t.length := by
    have := (List.getElem?_eq_some_iff.mp h).1
    rw [enumD_len, List.length_map] at this; exact this
  refine ⟨hi, ?_⟩
  unfold enumD at h
  simp [hi] at h
  exact h.symm
theorem dT_at {t : List Str} {k : Nat} (h : k < t.length) : L2.atI (t.map D.str) (k : Int) = some (.str t[k]) := by
  rw [atI_eq, List.getElem?_map, List.getElem?_eq_getElem h]; rfl
theorem dN_at {l : List Nat} {k : Nat} (h : k < l.length) : L2.atI (l.map fun k : Nat => D.int (k : Int)) (k : Int) = some (.int (l[k] : Nat)) := by
  rw [atI_eq, List.getElem?_map, List.getElem?_eq_getElem h]; rfl
def Gs (t : List Str) (G : List Nat) (i : Nat) : Prop := G.length = i ∧ ∀ m, m < i → ∃ g, G[m]? = some g ∧ isG t (m + 1) g
theorem gb_while {t : List Str} {G : List Nat} {i k : Nat} (hl : t.length ≤ 1000) (hi : i < t.length) (h0 : 0 < i) (hG : Gs t G i) (hk : isG t i k) :
    ∃ k', sWhile T_greatest_borders_l1 B_greatest_borders_l2 WFUEL [some (dT t), some (dN G), some (.int k), some (.int i), some (.str t[i])] = .ok .nx [some (dT t), some (dN G), some (.int (k' : Nat)), some (.int i), some (.str t[i])] ∧ isB t i k' ∧ (∀ k2, isB t i k2 → t[k2]? = t[i]? → k2 ≤ k') ∧ (k' = 0 ∨ t[k']? = t[i]?) := by
  obtain ⟨e', h1, k', rfl, h2⟩ := while_inv (t := T_greatest_borders_l1) (b := B_greatest_borders_l2)
    (fun e => ∃ k' : Nat, e = [some (dT t), some (dN G), some (.int (k' : Nat)), some (.int i), some (.str t[i])] ∧ isB t i k' ∧ (∀ k2, isB t i k2 → t[k2]? = t[i]? → k2 ≤ k'))
    (fun e => match (e[2]? : Option (Option D)) with | some (some (D.int k)) => k.toNat | _ => 0)
    (fun e => ∃ k' : Nat, e = [some (dT t), some (dN G), some (.int (k' : Nat)), some (.int i), some (.str t[i])] ∧ isB t i k' ∧ (∀ k2, isB t i k2 → t[k2]? = t[i]? → k2 ≤ k') ∧ (k' = 0 ∨ t[k']? = t[i]?))
    (fun e he => by
      obtain ⟨k', rfl, q1, q2⟩ := he
      have hk' : k' < t.length := by have := q1.1; omega
      by_cases c1 : k' = 0
      · refine ⟨false, _, ?_, k', rfl, q1, q2, .inl c1⟩
        subst c1
        simp [T_greatest_borders_l1]
      · have c1' : 0 < k' := by omega
        by_cases c2 : t[k'] = t[i]
        · refine ⟨false, _, ?_, k', rfl, q1, q2, .inr (by rw [List.getElem?_eq_getElem hk', List.getElem?_eq_getElem hi, c2])⟩
          simp [T_greatest_borders_l1, c1', dT_at hk', c2]
        · obtain ⟨g, g1, g2⟩ := hG.2 (k' - 1) (by have := q1.1; omega)
          rw [show k' - 1 + 1 = k' by omega] at g2
          have hgl : k' - 1 < G.length := by have := q1.1; rw [hG.1]; omega
          have ga : L2.atI (G.map fun k : Nat => D.int (k : Int)) ((k' : Int) - 1) = some (.int (g : Nat)) := by
            rw [show ((k' : Int) - 1) = ((k' - 1 : Nat) : Int) by omega, dN_at hgl]
            rw [List.getElem?_eq_getElem hgl] at g1; rw [Option.some.inj g1]
          refine ⟨true, [some (dT t), some (dN G), some (.int (k' : Nat)), some (.int i), some (.str t[i])], ?_, ?_⟩
          · simp [T_greatest_borders_l1, c1', dT_at hk', c2]
          · rw [if_pos rfl]
            refine ⟨.nx, [some (dT t), some (dN G), some (.int (g : Nat)), some (.int i), some (.str t[i])], ?_, .inl rfl, ⟨g, rfl, isB_trans q1 g2.1, fun k2 b1 b2 => ?_⟩, ?_⟩
            · simp [B_greatest_borders_l2, ga]
            · have := q2 k2 b1 b2
              have ne : k2 ≠ k' := fun e => by
                subst e
                rw [List.getElem?_eq_getElem hk', List.getElem?_eq_getElem hi] at b2
                exact c2 (Option.some.inj b2)
              exact g2.2 _ (isB_down q1 b1 (by omega))
            · show (g : Int).toNat < (k' : Int).toNat
              have := g2.1.1; omega)
    WFUEL [some (dT t), some (dN G), some (.int k), some (.int i), some (.str t[i])] ⟨k, rfl, hk.1, fun k2 b1 _ => hk.2 k2 b1⟩ (by show (k : Int).toNat < 1000000; have := hk.1.1; omega)
  exact ⟨k', h1, h2⟩
theorem isG_next {t : List Str} {i k : Nat} (hi : i < t.length) (h1 : isB t i k) (h2 : ∀ k2, isB t i k2 → t[k2]? = t[i]? → k2 ≤ k) (h3 : k = 0 ∨ t[k]? = t[i]?) : isG t (i + 1) (k + if t[k]? = t[i]? then 1 else 0) := by
  by_cases c : t[k]? = t[i]?
  · rw [if_pos c]
    refine ⟨(isB_succ hi).mpr ⟨h1, c⟩, fun m hm => ?_⟩
    cases m with
    | zero => omega
    | succ m =>
      obtain ⟨a1, a2⟩ := (isB_succ hi).mp hm
      have := h2 m a1 a2; omega
  · rw [if_neg c]
    have hk : k = 0 := h3.resolve_right c
    subst hk
    refine ⟨isB_zero (by omega) (by omega), fun m hm => ?_⟩
    cases m with
    | zero => omega
    | succ m =>
      obtain ⟨a1, a2⟩ := (isB_succ hi).mp hm
      have := h2 m a1 a2
      have : m = 0 := by omega
      subst this; exact absurd a2 c
theorem gb_row {t : List Str} {G : List Nat} {i k : Nat} (hl : t.length ≤ 1000) (hi : i < t.length) (hG : Gs t G i) (hk : (i = 0 ∧ k = 0) ∨ isG t i k) :
    ∃ k', B_greatest_borders_l3 [some (dT t), some (dN G), some (.int k), some (.int i), some (.str t[i])] = .ok .nx [some (dT t), some (dN (G ++ [k'])), some (.int (k' : Nat)), some (.int i), some (.str t[i])] ∧ Gs t (G ++ [k']) (i + 1) ∧ isG t (i + 1) k' := by
  have hL : G.length < LIM := by rw [hG.1]; show _ < 100000; omega
  have gs : ∀ k', isG t (i + 1) k' → Gs t (G ++ [k']) (i + 1) := fun k' h => by
    refine ⟨by rw [List.length_append, hG.1]; rfl, fun m hm => ?_⟩
    by_cases q : m = i
    · subst q; exact ⟨k', by rw [List.getElem?_append_right (by rw [hG.1]; omega), hG.1]; simp, h⟩
    · obtain ⟨g, g1, g2⟩ := hG.2 m (by omega)
      exact ⟨g, by rw [List.getElem?_append_left (by rw [hG.1]; omega)]; exact g1, g2⟩
  rcases hk with ⟨rfl, rfl⟩ | hk
  · have : isG t (0 + 1) 0 := isG_one (by omega)
    refine ⟨0, ?_, gs 0 this, this⟩
    simp [B_greatest_borders_l3, hL]
  · have h0 : 0 < i := by have := hk.1.1; omega
    obtain ⟨k', w1, w2, w3, w4⟩ := gb_while hl hi h0 hG hk
    have hk' : k' < t.length := by have := w2.1; omega
    have g := isG_next hi w2 w3 w4
    refine ⟨k' + if t[k']? = t[i]? then 1 else 0, ?_, gs _ g, g⟩
    rw [List.getElem?_eq_getElem hk', List.getElem?_eq_getElem hi]
    by_cases c : t[k'] = t[i]
    · simp [B_greatest_borders_l3, h0, w1, dT_at hk', c, hL]
    · simp [B_greatest_borders_l3, h0, w1, dT_at hk', c, hL]
theorem gb_val {t : List Str} (hl : t.length ≤ 1000) : ∃ G, F_greatest_borders [dT t] = .ok (dN G) (dT t) ∧ Gs t G t.length := by
  obtain ⟨e', h1, G, k, e3, e4, rfl, q1, q2⟩ := for_inv (tg := tgT [3, 4]) (b := B_greatest_borders_l3) (ds := enumD (t.map D.str)) (e := [some (dT t), some (.lst []), some (.int 0), none, none])
    (fun i e => ∃ G k e3 e4, e = [some (dT t), some (dN G), some (.int (k : Nat)), e3, e4] ∧ Gs t G i ∧ ((i = 0 ∧ k = 0) ∨ isG t i k))
    ⟨[], 0, none, none, rfl, ⟨rfl, fun m hm => by omega⟩, .inl ⟨rfl, rfl⟩⟩
    (fun i d e hd hi => by
      obtain ⟨G, k, e3, e4, rfl, q1, q2⟩ := hi
      obtain ⟨hi, rfl⟩ := enum_get hd
      obtain ⟨k', a1, a2, a3⟩ := gb_row hl hi q1 q2
      exact ⟨_, _, .nx, rfl, a1, .inl rfl, _, k', _, _, rfl, a2, .inr a3⟩)
  rw [enumD_len, List.length_map] at q1
  refine ⟨G, ?_, q1⟩
  simp only [F_greatest_borders, r_runF, B_greatest_borders]
  simp [hsz0, h1]
theorem bord_eq {t : List Str} : ∀ k, k ∈ bord t ↔ isB t t.length k := fun k => by
  unfold bord
  rw [List.mem_filter, List.mem_range]
  constructor
  · intro ⟨h1, h2⟩
    exact (isB_iff h1).mpr (of_decide_eq_true h2)
  · intro h
    exact ⟨h.1, decide_eq_true ((isB_iff h.1).mp h)⟩
def bdUp (t : List Str) (k : Nat) : List Nat := ((List.range t.length).filter fun j => decide (t.take j = t.drop (t.length - j)) && decide (k < j)).reverse
theorem bdUp_snoc {t : List Str} {k : Nat} (h : isB t t.length k) : bdUp t k ++ [k] = ((List.range t.length).filter fun j => decide (t.take j = t.drop (t.length - j)) && decide (k ≤ j)).reverse := by
  rw [filter_ge h.1 (decide_eq_true ((isB_iff h.1).mp h)), List.reverse_cons]; rfl
theorem bdUp_step {t : List Str} {k g : Nat} (h : isB t t.length k) (hg : isG t k g) : bdUp t k ++ [k] = bdUp t g := by
  rw [bdUp_snoc h]
  unfold bdUp
  congr 1
  apply List.filter_congr
  intro j hj
  rw [List.mem_range] at hj
  by_cases c : t.take j = t.drop (t.length - j)
  · have hb := (isB_iff hj).mpr c
    have : k ≤ j ↔ g < j := by
      constructor
      · intro _; have := hg.1.1; omega
      · intro hlt
        by_cases q : k ≤ j
        · exact q
        · have := hg.2 j (isB_down h hb (by omega)); omega
    simp [this]
  · simp [c]
theorem bdUp_zero {t : List Str} (h : 0 < t.length) : (bdUp t 0 ++ [0]).reverse = bord t := by
  rw [bdUp_snoc (isB_zero h (Nat.le_refl _)), List.reverse_reverse]
  unfold bord
  simp
theorem bdUp_len (t : List Str) (k : Nat) : (bdUp t k).length ≤ t.length := by
  unfold bdUp
  rw [List.length_reverse]
  exact Nat.le_trans (List.length_filter_le _ _) (by rw [List.length_range]; exact Nat.le_refl _)
theorem bdUp_top {t : List Str} {g : Nat} (hg : isG t t.length g) : bdUp t g = [] := by
  unfold bdUp
  rw [List.reverse_eq_nil_iff, List.filter_eq_nil_iff]
  intro j hj
  rw [List.mem_range] at hj
  simp
  intro c
  exact hg.2 j ((isB_iff hj).mpr c)
theorem Gs.at {t : List Str} {G : List Nat} {i m : Nat} (h : Gs t G i) (hm : m < i) : ∃ g : Nat, L2.atI (G.map fun k : Nat => D.int (k : Int)) (m : Int) = some (.int (g : Nat)) ∧ isG t (m + 1) g := by
  obtain ⟨g, g1, g2⟩ := h.2 m hm
  have hgl : m < G.length := by rw [h.1]; exact hm
  refine ⟨g, ?_, g2⟩
  rw [dN_at hgl]
  rw [List.getElem?_eq_getElem hgl] at g1; rw [Option.some.inj g1]
theorem borders_val {t : List Str} (ht : Tx t) (hl : t.length ≤ 1000) : F_borders [dT t] = .ok (dN (bord t)) (dT t) := by
  have hns := need_signs_val ht (show t.length ≤ 100000 by omega)
  by_cases h0 : t = []
  · subst h0
    simp only [F_borders, r_runF, B_borders]
    simp [hns, hsz0, bord, gNe_nT okNil]
  · have hp : 0 < t.length := List.length_pos_iff.mpr h0
    obtain ⟨G, G1, G2⟩ := gb_val hl
    obtain ⟨g, g1, g2⟩ := G2.at (m := t.length - 1) (by omega)
    rw [show t.length - 1 + 1 = t.length by omega] at g2
    have g1 : L2.atI (G.map fun k : Nat => D.int (k : Int)) (-1) = some (.int (g : Nat)) := by
      rw [atI_neg1, List.getLast?_eq_getElem?, List.length_map, G2.1, ← atI_eq]
      exact g1
    obtain ⟨e', h1, k', rfl, -⟩ := while_inv (t := T_borders_l1) (b := B_borders_l2)
      (fun e => ∃ k' : Nat, e = [some (dT t), some (dN (bdUp t k')), some (dN G), some (.int (k' : Nat))] ∧ isB t t.length k')
      (fun e => match (e[3]? : Option (Option D)) with | some (some (D.int k)) => k.toNat | _ => 0)
      (fun e => ∃ k' : Nat, e = [some (dT t), some (dN (bdUp t 0)), some (dN G), some (.int 0)] ∧ isB t t.length k')
      (fun e he => by
        obtain ⟨k', rfl, q1⟩ := he
        by_cases c1 : k' = 0
        · subst c1
          refine ⟨false, _, ?_, 0, rfl, q1⟩
          simp [T_borders_l1]
        · have c1' : 0 < k' := by omega
          obtain ⟨m, m1, m2⟩ := G2.at (m := k' - 1) (by have := q1.1; omega)
          rw [show k' - 1 + 1 = k' by omega] at m2
          rw [show ((k' - 1 : Nat) : Int) = (k' : Int) - 1 by omega] at m1
          refine ⟨true, [some (dT t), some (dN (bdUp t k')), some (dN G), some (.int (k' : Nat))], ?_, ?_⟩
          · simp [T_borders_l1, c1']
          · rw [if_pos rfl]
            refine ⟨.nx, [some (dT t), some (dN (bdUp t m)), some (dN G), some (.int (m : Nat))], ?_, .inl rfl, ⟨m, rfl, isB_trans q1 m2.1⟩, ?_⟩
            · have hL : (bdUp t k').length < LIM := by have := bdUp_len t k'; show _ < 100000; omega
              rw [← bdUp_step q1 m2]
              simp [B_borders_l2, hL, m1]
            · show (m : Int).toNat < (k' : Int).toNat
              have := m2.1.1; omega)
      WFUEL [some (dT t), some (.lst []), some (dN G), some (.int (g : Nat))] ⟨g, by rw [bdUp_top g2]; rfl, g2.1⟩ (by show (g : Int).toNat < 1000000; have := g2.1.1; omega)
    have hL : (bdUp t 0).length < LIM := by have := bdUp_len t 0; show _ < 100000; omega
    rw [← bdUp_zero hp]
    simp only [F_borders, r_runF, B_borders]
    simp [hns, hsz0, gNe_nT ht.ok, h0, G1, g1, h1, hL]
def pers (t : List Str) : List Nat := (List.range' 1 t.length).filter fun m => decide (t.take (t.length - m) = t.drop m)
theorem periods_val {t : List Str} (ht : Tx t) (hl : t.length ≤ 1000) : F_periods [dT t] = .ok (dN (pers t)) (dT t) := by
  have hb := bord_len t
  have h1 := lc_nat (is := [1]) (tg := tgN 1) (t := tTrue) (fe := e2 gSub (eN gLen (aCons (eV 0) aNil)) (eV 1)) (e := [some (dT t), none]) (fun _ => true) (fun k => .int ((t.length - k : Nat) : Int)) (bord t).reverse (by rw [List.length_reverse]; show _ ≤ 100000; omega)
    (fun k hk => by
      have hk := bord_lt (List.mem_reverse.mp hk)
      refine ⟨_, [some (dT t), some (.int k)], rfl, rfl, fun _ => ⟨[some (dT t), some (.int k)], ?_, rfl⟩, fun h => by cases h⟩
      have : (t.length : Int) - (k : Int) = ((t.length - k : Nat) : Int) := by omega
      simp [this])
  have e1 : (bord t).reverse.map (fun k => t.length - k) = pers t := by
    unfold bord pers
    apply rev_filter
    intro k hk
    rw [show t.length - (t.length - k) = k by omega]
  have e2 : (bord t).reverse.map (fun k => D.int ((t.length - k : Nat) : Int)) = (pers t).map fun k : Nat => D.int (k : Int) := by rw [← e1, List.map_map]; rfl
  rw [List.filter_eq_self.mpr (fun _ _ => rfl), e2, List.map_reverse] at h1
  simp only [F_periods, r_runF, B_periods]
  simp [borders_val ht hl, h1]
theorem per_iff {t : List Str} {m : Nat} : t.take (t.length - m) = t.drop m ↔ ∀ k, k < t.length - m → t[m + k]? = t[k]? := by
  constructor
  · intro e k hk
    have := congrArg (fun l => l[k]?) e
    simp only [List.getElem?_take, List.getElem?_drop] at this
    rw [if_pos hk] at this
    exact this.symm
  · intro e
    apply List.ext_getElem?
    intro k
    rw [List.getElem?_take, List.getElem?_drop]
    by_cases q : k < t.length - m
    · rw [if_pos q, e k q]
    · rw [if_neg q, List.getElem?_eq_none (by omega)]
theorem pers_len (t : List Str) : (pers t).length ≤ t.length := by
  unfold pers
  exact Nat.le_trans (List.length_filter_le _ _) (by rw [List.length_range']; exact Nat.le_refl _)
end Ov
namespace Ov
open PySem (Str PyData)
open MV
theorem for_cells {b : M Fl} {m : Nat} {q : D} (h : ∀ (c : Int) (xs : List (Option D)), xs.length = m → ∃ ys, ys.length = m ∧ b (some q :: some (.int c) :: xs) = .ok .nx (some q :: some (.int c) :: ys)) :
    ∀ (cs : List Int) (x1 : Option D) (xs : List (Option D)), xs.length = m → ∃ y1 ys, ys.length = m ∧ sForL (tgN 1) b (cs.map D.int) (some q :: x1 :: xs) = .ok .nx (some q :: y1 :: ys)
  | [], x1, xs, hx => ⟨x1, xs, hx, rfl⟩
  | c :: cs, x1, xs, hx => by
    obtain ⟨ys, h1, h2⟩ := h c xs hx
    obtain ⟨y1, zs, h3, h4⟩ := for_cells h cs (some (.int c)) ys h1
    refine ⟨y1, zs, h3, ?_⟩
    rw [List.map_cons, sForL, bnd_of_ok (r_tgN (i := 1)), List.set_cons_succ, List.set_cons_zero, bnd_of_ok h2]
    exact h4
def isSg (x : Str) : Bool := decide (x.length = 1) && x.cps.toList.all fun c => decide (97 ≤ c) && decide (c ≤ 122)
def Gd (t : List Str) : Prop := ∀ x ∈ t, okS x ∧ x.length ≤ 100
theorem Tx.gd {t : List Str} (h : Tx t) : Gd t := fun x hx => ⟨(h x hx).ok, by obtain ⟨c, rfl, _⟩ := h x hx; show 1 ≤ 100; decide⟩
theorem Gd.ok {t : List Str} (h : Gd t) : ∀ x ∈ t, okS x := fun x hx => (h x hx).1
theorem Gd.append {t u : List Str} (h : Gd t) (h2 : Gd u) : Gd (t ++ u) := fun x hx => (List.mem_append.mp hx).elim (h x) (h2 x)
theorem strs_all (l : List Str) : ∀ x ∈ l.map D.str, x.sc = true := fun x h => by
  obtain ⟨y, _, rfl⟩ := List.mem_map.mp h
  rfl
end Ov
namespace Ov
open PySem (Str PyData)
open MV
def Lay (n : Nat) (d : D) : Prop := ∃ p, d.toP = some p ∧ p.canLay0 = true ∧ p.depth ≤ n
theorem Lay.le {n m : Nat} (h : n ≤ m) {d : D} (l : Lay n d) : Lay m d := let ⟨p, a, b, c⟩ := l; ⟨p, a, b, Nat.le_trans c h⟩
theorem mulOk_small {i j : Int} (h1 : -(2 ^ 64) < i) (h2 : i < 2 ^ 64) : mulOk i j = true := by
  unfold mulOk
  rw [Bool.or_eq_true]
  exact .inl (decide_eq_true (.inl ⟨h1, h2⟩))
def wayson (w : List Str) : List Nat := (List.range' 1 w.length).filter fun d => decide (w.drop d = w.take (w.length - d))
theorem wayson_le {w : List Str} {d : Nat} (h : d ∈ wayson w) : 1 ≤ d ∧ d ≤ w.length := by
  unfold wayson at h
  rw [List.mem_filter, List.mem_range'] at h
  obtain ⟨⟨i, h1, h2⟩, _⟩ := h
  omega
end Ov
namespace Ov
open PySem (Str PyData)
open MV
theorem mapA (a b : List Str) : a.map D.str ++ b.map D.str = (a ++ b).map D.str := by rw [List.map_append]
end Ov
namespace Ov
open PySem (Str PyData)
open MV
end Ov
namespace Ov
open PySem (Str)
open MV
abbrev Srt (l : List Nat) : Prop := l.Pairwise (· < ·)
end Ov
namespace Ov
open PySem (Str)
open MV
end Ov
namespace Ov
open PySem (Str)
open MV
theorem lies_self (t : List Str) : lies t t = [0] := by
  unfold lies
  rw [show t.length + 1 - t.length = 1 by omega]
  simp
end Ov
namespace Ov
open PySem (Str PyData)
open MV
def topL (p : Nat → Bool) : Nat → Nat
  | 0 => 0
  | n + 1 => if p (n + 1) then n + 1 else topL p n
def haB (t w : List Str) (l : Nat) : Bool := decide (w.drop (w.length - l) = t.take l)
def hbB (t w : List Str) (l : Nat) : Bool := decide (w.take l = t.drop (t.length - l))
def ha (t w : List Str) : Nat := topL (haB t w) (min t.length (w.length - 1))
def hb (t w : List Str) : Nat := topL (hbB t w) (min t.length (w.length - 1))
def cam (w b : Nat) (L : List Nat) : Nat := L.foldl (fun r p => if p ≤ r then max r (p + w) else r) b
def rbV (t w : List Str) : Bool := decide (t.length - hb t w ≤ cam w.length 0 (lies t w))
def raV (t w : List Str) : Bool := decide (t.length ≤ cam w.length (ha t w) (lies t w))
def cbV (t w : List Str) : Bool := !decide (lies w t = []) || decide (t.length - hb t w ≤ cam w.length (ha t w) (lies t w))
section
variable {t w : List Str}
end
def pc (t : List Str) (l p : Nat) : List Str := (t.drop p).take l
def fstAt (t : List Str) (l p : Nat) : Bool := !((List.range p).any fun k => decide (pc t l k = pc t l p))
def metK (s : List Str) : List L2.Key := s.map Sum.inr
end Ov
namespace Ov
open PySem (Str PyData)
open MV
theorem depth_strs : ∀ a : List Str, PyData.depthAll (a.map PyData.str) = 0
  | [] => by simp [PyData.depthAll]
  | x :: a => by rw [List.map_cons, PyData.depthAll, depth_strs a]; simp [PyData.depth]
mutual
theorem eqv_eq : ∀ (p q : PyData), PySem.W.alike p q = true → PyData.eqv p q = true → p = q
  | .none, q, h, e => by cases q <;> first | rfl | (simp [PySem.W.alike] at h)
  | .bool a, q, h, e => by cases q <;> first | (exfalso; simp [PySem.W.alike] at h; done) | (simp [PyData.eqv] at e; rw [e])
  | .int a, q, h, e => by cases q <;> first | (exfalso; simp [PySem.W.alike] at h; done) | (simp [PyData.eqv] at e; rw [e])
  | .str a, q, h, e => by cases q <;> first | (exfalso; simp [PySem.W.alike] at h; done) | (simp [PyData.eqv] at e; rw [e])
  | .list xs, q, h, e => by
    cases q with
    | list ys =>
      rw [PySem.W.alike] at h
      rw [PyData.eqv] at e
      rw [eqvAll_eq xs ys h e]
    | _ => simp [PySem.W.alike] at h
  | .tuple xs, q, h, e => by
    cases q with
    | tuple ys =>
      rw [PySem.W.alike] at h
      rw [PyData.eqv] at e
      rw [eqvAll_eq xs ys h e]
    | _ => simp [PySem.W.alike] at h
  | .dict _, q, h, e => by cases q <;> simp [PySem.W.alike] at h
theorem eqvAll_eq : ∀ (p q : List PyData), PySem.W.alikeAll p q = true → PyData.eqvAll p q = true → p = q
  | [], [], _, _ => rfl
  | [], _ :: _, _, e => by simp [PyData.eqvAll] at e
  | _ :: _, [], _, e => by simp [PyData.eqvAll] at e
  | x :: xs, y :: ys, h, e => by
    rw [PySem.W.alikeAll, Bool.and_eq_true] at h
    rw [PyData.eqvAll, Bool.and_eq_true] at e
    rw [eqv_eq x y h.1 e.1, eqvAll_eq xs ys h.2 e.2]
end
section
variable {t w : List Str}
theorem for_step {tg : D → M Unit} {b : M Fl} {d : D} {r : List D} {e e1 e2 : PEnv} (h1 : tg d e = .ok () e1) (h2 : b e1 = .ok .nx e2) : sForL tg b (d :: r) e = sForL tg b r e2 := by
  rw [sForL, bnd_of_ok h1, bnd_of_ok h2]; rfl
end
end Ov
namespace Ov
open PySem (Str)
open MV
def Oc (t : List Str) (s p : Nat) : Prop := ∀ j, j < s → t[p + j]? = t[j]?
instance (t : List Str) (s p : Nat) : Decidable (Oc t s p) := Nat.decidableBallLT s fun j _ => t[p + j]? = t[j]?
def Cvr (t : List Str) (s e : Nat) : Prop := 1 ≤ s ∧ s ≤ e ∧ e ≤ t.length ∧ ∀ i, i < e → ∃ p, p ≤ i ∧ i < p + s ∧ p + s ≤ e ∧ Oc t s p
theorem Cvr.suffix {t : List Str} {s e : Nat} (h : Cvr t s e) : Oc t s (e - s) := by
  obtain ⟨h1, h2, h3, h4⟩ := h
  obtain ⟨p, a1, a2, a3, a4⟩ := h4 (e - 1) (by omega)
  rw [show e - s = p by omega]; exact a4
theorem Cvr.trans {t : List Str} {s g e : Nat} (h : Cvr t s g) (h2 : Cvr t g e) : Cvr t s e := by
  obtain ⟨a1, a2, a3, a4⟩ := h
  obtain ⟨b1, b2, b3, b4⟩ := h2
  refine ⟨a1, by omega, b3, fun i hi => ?_⟩
  obtain ⟨p, c1, c2, c3, c4⟩ := b4 i hi
  obtain ⟨q, d1, d2, d3, d4⟩ := a4 (i - p) (by omega)
  refine ⟨p + q, by omega, by omega, by omega, fun j hj => ?_⟩
  rw [Nat.add_assoc, c4 (q + j) (by omega), d4 j hj]
theorem Cvr.isB {t : List Str} {s e : Nat} (h : Cvr t s e) (hl : s < e) : isB t e s := by
  have hs := h.suffix
  exact ⟨hl, h.2.2.1, fun j hj => (hs j hj).symm⟩
end Ov
namespace Ov
open PySem (Str PyData)
open MV
section
variable (t w : List Str)
end
section
variable {t w : List Str}
end
end Ov
namespace Ov
open PySem (Str PyData)
open MV
section
variable {t w : List Str}
end
end Ov
namespace Ov
open PySem (Str PyData)
open MV
section
variable {t w : List Str}
end
end Ov
namespace Ov
open PySem (Str PyData)
open MV
inductive Nm : Str → Str → Prop
  | word : Nm (Str.ofString "NoWord") (Str.ofString "word")
  | sign : Nm (Str.ofString "NoSign") (Str.ofString "sign")
  | text : Nm (Str.ofString "NoText") (Str.ofString "text")
  | cover : Nm (Str.ofString "NoCover") (Str.ofString "cover")
  | many : Nm (Str.ofString "TooMany") (Str.ofString "many")
theorem Gd.filter {t : List Str} (h : Gd t) (p : Str → Bool) : Gd (t.filter p) := fun x hx => h x (List.mem_filter.mp hx).1
theorem Gd.take {t : List Str} (h : Gd t) (k : Nat) : Gd (t.take k) := fun x hx => h x (List.mem_of_mem_take hx)
theorem Gd.drop {t : List Str} (h : Gd t) (k : Nat) : Gd (t.drop k) := fun x hx => h x (List.mem_of_mem_drop hx)
end Ov
namespace Ov
open PySem (Str PyData)
open MV
end Ov
namespace Ov
open PySem (Str PyData)
open MV
end Ov
namespace Ov
open PySem (Str)
open MV
def PL (P : Nat → Nat → Prop) (L : List Nat) (n : Nat) : Prop := L.length = n ∧ ∀ m, m < n → ∃ g, L[m]? = some g ∧ P (m + 1) g
theorem PL.at {P : Nat → Nat → Prop} {L : List Nat} {n m : Nat} (h : PL P L n) (hm : m < n) : ∃ g : Nat, L2.atI (L.map fun k : Nat => D.int (k : Int)) (m : Int) = some (.int (g : Nat)) ∧ P (m + 1) g := by
  obtain ⟨g, g1, g2⟩ := h.2 m hm
  have hgl : m < L.length := by rw [h.1]; exact hm
  refine ⟨g, ?_, g2⟩
  rw [dN_at hgl]
  rw [List.getElem?_eq_getElem hgl] at g1; rw [Option.some.inj g1]
end Ov
namespace Ov
open PySem (Str)
open MV
end Ov
namespace Ov
open PySem (Str PyData)
open MV
end Ov
namespace Ov
open PySem (Str PyData)
open MV
theorem sIx_neg (n d k : Nat) (h : 0 < k) : HT.sIx n d (some (-(k : Int))) = n - k := by
  show (if -(k : Int) < 0 then (-(k : Int) + (n : Int)).toNat else min (-(k : Int)).toNat n) = n - k
  rw [if_pos (by omega)]
  omega
theorem cutA_neg_to {α : Type} (l : List α) (k : Nat) (h : 0 < k) : cutA l none (some (-(k : Int))) = l.take (l.length - k) := by
  unfold cutA
  rw [HT.sIx_none, sIx_neg _ _ _ h, List.drop_zero, Nat.sub_zero]
theorem cutA_neg_from {α : Type} (l : List α) (k : Nat) (h : 0 < k) : cutA l (some (-(k : Int))) none = l.drop (l.length - k) := by
  unfold cutA
  rw [HT.sIx_none, sIx_neg _ _ _ h, List.take_of_length_le (by rw [List.length_drop]; omega)]
theorem cutA_init {α : Type} (l : List α) : cutA l none (some (-1)) = l.dropLast := by
  have := cutA_neg_to l 1 (by decide)
  rw [show -((1 : Nat) : Int) = -1 from rfl] at this
  rw [this, List.dropLast_eq_take]
section
variable {t w : List Str}
def b3 (t w : List Str) : D := .lst [.bl (rbV t w), .bl (raV t w), .bl (cbV t w)]
end
end Ov
namespace Ov
open PySem (Str)
open MV
def Ql (t : List Str) (s e x : Nat) : Prop := (x = 0 ∧ ∀ s', s' ≤ s → ¬ Cvr t s' e) ∨ (x ≤ s ∧ Cvr t x e ∧ ∀ s', Cvr t s' e → x ≤ s')
def Qg (t : List Str) (s e x : Nat) : Prop := (x = 0 ∨ (x < e ∧ Cvr t x e)) ∧ ∀ s', s' ≤ s → s' < e → Cvr t s' e → s' ≤ x
section
variable {t : List Str} {s e x : Nat}
theorem Ql.upd (hs : 1 ≤ s) (hc : Cvr t s e) (h : Ql t (s - 1) e x ∨ Ql t s e x) : Ql t s e (if x = 0 then s else x) := by
  have nz : ∀ {u : Nat}, Cvr t u e → u ≠ 0 := fun h => by have := h.1; omega
  by_cases c : x = 0
  · rw [if_pos c]
    refine .inr ⟨Nat.le_refl _, hc, fun s' h' => ?_⟩
    rcases h with (h | h) | (h | h)
    · by_cases d : s ≤ s'
      · exact d
      · exact absurd h' (h.2 s' (by omega))
    · exact absurd c (nz h.2.1)
    · exact absurd hc (h.2 s (Nat.le_refl _))
    · exact absurd c (nz h.2.1)
  · rw [if_neg c]
    rcases h with (h | h) | (h | h)
    · exact absurd h.1 c
    · exact .inr ⟨by omega, h.2⟩
    · exact absurd h.1 c
    · exact .inr h
theorem Qg.upd (hs : 1 ≤ s) (hc : Cvr t s e) (h : Qg t (s - 1) e x ∨ Qg t s e x) : Qg t s e (if s < e then s else x) := by
  by_cases c : s < e
  · rw [if_pos c]
    exact ⟨.inr ⟨c, hc⟩, fun s' h1 _ _ => h1⟩
  · rw [if_neg c]
    have := hc.2.1
    rcases h with h | h
    · exact ⟨h.1, fun s' h1 h2 h3 => h.2 s' (by omega) h2 h3⟩
    · exact h
end
def Mid (Q : Nat → Nat → Nat → Prop) (s : Nat) (E : List Nat) (A : List Nat) (n : Nat) : Prop := A.length = n ∧ ∀ m, m < n → ∃ x, A[m]? = some x ∧ (Q (s - 1) (m + 1) x ∨ Q s (m + 1) x) ∧ (m + 1 ∈ E → Q s (m + 1) x)
theorem Mid.set {Q : Nat → Nat → Nat → Prop} {s m n : Nat} {E A : List Nat} (h : Mid Q s E A n) (hm : m < n) {y : Nat} (hy : Q s (m + 1) y) : Mid Q s (E ++ [m + 1]) (A.set m y) n := by
  refine ⟨by rw [List.length_set]; exact h.1, fun k hk => ?_⟩
  by_cases c : m = k
  · subst c
    exact ⟨y, by rw [List.getElem?_set_self (by rw [h.1]; exact hm)], .inr hy, fun _ => hy⟩
  · obtain ⟨x, x1, x2, x3⟩ := h.2 k hk
    refine ⟨x, by rw [List.getElem?_set_ne c]; exact x1, x2, fun z => ?_⟩
    rcases List.mem_append.mp z with z | z
    · exact x3 z
    · exact absurd (List.mem_singleton.mp z) (by omega)
end Ov
namespace Ov
open PySem (Str PyData)
open MV
end Ov
namespace Ov
open PySem (Str)
open MV
def ov (w : Nat) (L : List Nat) (i : Nat) : Bool := L.any fun p => decide (p ≤ i) && decide (i < p + w)
end Ov
namespace Ov
open PySem (Str PyData)
open MV
end Ov
namespace Ov
open PySem (Str)
open MV
theorem inD_n (p : Int) (L : List Nat) : inD (.int p) (L.map fun k : Nat => D.int (k : Int)) = L.any fun k => decide ((k : Int) = p) := by
  induction L with
  | nil => rfl
  | cons a r ih =>
    show (eqD (.int (a : Int)) (.int p) || inD (.int p) (r.map fun k : Nat => D.int (k : Int))) = _
    rw [ih, List.any_cons]; rfl
theorem gNotIn_n (p : Int) (L : List Nat) : gNotIn (.int p) (dN L) = some (.bl (!(L.any fun k => decide ((k : Int) = p)))) := by
  have h : (L.map fun k : Nat => D.int (k : Int)).all D.sc = true := by rw [List.all_map, List.all_eq_true]; intro x _; rfl
  show (if (D.int p).sc && (L.map fun k : Nat => D.int (k : Int)).all D.sc then some (inD (.int p) (L.map fun k : Nat => D.int (k : Int))) else none).map (fun k => D.bl (!k)) = _
  rw [h, inD_n]; rfl
section
variable {f g : M D} {lo hi : M (Option Int)} {e : PEnv} {n m : Nat}
end
def Rows (rows : List (List Int)) (k : Nat) : Prop := rows.length = k ∧ ∀ r ∈ rows, r.length ≤ 2000
end Ov
namespace Ov
open PySem (Str PyData)
open MV
def kvsF (n : Nat) : List Str → List (L2.Key × D)
  | [] => []
  | x :: r => (Sum.inl (n : Int), .str x) :: kvsF (n + 1) r
abbrev dS (s : List Str) : D := .dic (kvsF 0 s)
def ovl (s : List Str) (p : Nat) (w : List Str) : List Str := s.take p ++ w ++ s.drop (p + w.length)
def shw (w : List Str) (ch : List Nat) : List Str := ch.foldl (fun s p => ovl s p w) []
def Rising (m : Nat) : Nat → List Nat → Prop
  | _, [] => True
  | L, p :: r => p ≤ L ∧ Rising m (max L (p + m)) r
theorem Rising.take {m : Nat} : ∀ {ch : List Nat} {L : Nat} (n : Nat), Rising m L ch → Rising m L (ch.take n)
  | _, _, 0, _ => trivial
  | [], _, n + 1, _ => trivial
  | p :: r, L, n + 1, h => ⟨h.1, Rising.take n h.2⟩
end Ov
namespace Ov
open PySem (Str PyData)
open MV
def mism (a b : List Str) : Nat := ((a.zip b).filter fun p => !decide (p.1 = p.2)).length
theorem mism_nil (b : List Str) : mism [] b = 0 := rfl
theorem mism_cons (x y : Str) (a b : List Str) : mism (x :: a) (y :: b) = (if x = y then 0 else 1) + mism a b := by
  unfold mism
  rw [List.zip_cons_cons, List.filter_cons]
  by_cases h : x = y
  · simp [h]
  · simp [h]; omega
def wrV (t w : List Str) (p s : Nat) : Nat := mism (t.drop (p + s)) (w.drop s)
def Stp' (w : List Str) : Nat → List Nat → Prop
  | _, [] => True
  | a, b :: r => (∃ d ∈ wayson w, b = a + d) ∧ Stp' w b r
def lastN (a : Nat) : List Nat → Nat
  | [] => a
  | b :: r => lastN b r
theorem wayson_shift {w : List Str} {d : Nat} (h : d ∈ wayson w) : w.drop d = w.take (w.length - d) := by
  unfold wayson at h
  simpa using (List.mem_filter.mp h).2
theorem ovl_next {S w : List Str} {a d : Nat} (hS : S.length = a + w.length) (hd : S.drop a = w) (h : d ∈ wayson w) : ovl S (a + d) w = S ++ w.drop (w.length - d) ∧ (ovl S (a + d) w).drop (a + d) = w ∧ (ovl S (a + d) w).length = a + d + w.length := by
  obtain ⟨h1, h2⟩ := wayson_le h
  have e0 : S.drop (a + d + w.length) = [] := List.drop_eq_nil_of_le (by omega)
  have e1 : S.drop (a + d) = w.take (w.length - d) := by rw [← List.drop_drop, hd, wayson_shift h]
  have e2 : ovl S (a + d) w = S.take (a + d) ++ w := by unfold ovl; rw [e0, List.append_nil]
  refine ⟨?_, ?_, ?_⟩
  · rw [e2]
    conv => rhs; rw [← List.take_append_drop (a + d) S, e1, List.append_assoc, List.take_append_drop]
  · rw [e2, List.drop_append_of_le_length (by rw [List.length_take]; omega), List.drop_eq_nil_of_le (by rw [List.length_take]; omega), List.nil_append]
  · rw [e2, List.length_append, List.length_take]; omega
def costS (t w : List Str) : Nat → List Nat → Nat
  | _, [] => 0
  | a, b :: r => wrV t w b (w.length + a - b) + costS t w b r
theorem shw_zero {w : List Str} (r : List Nat) : shw w (0 :: r) = r.foldl (fun s p => ovl s p w) w := by
  unfold shw
  rw [List.foldl_cons]
  congr 1
  unfold ovl
  simp
def stepsI (ch : List Int) : List (Int × Int) := ch.zip (ch.drop 1)
def inW (w : List Str) (d : Int) : Bool := (wayson w).any fun k => decide ((k : Int) = d)
def offS (w : List Str) (ch : List Int) : List (Int × Int) := (stepsI ch).filter fun p => !inW w (p.2 - p.1)
end Ov
namespace Ov
open PySem (Str PyData)
open MV
def okC (t w : List Str) (ch : List Int) : Prop := ch.head? = some 0 ∧ ch.getLast? = some ((t.length : Int) - (w.length : Int)) ∧ offS w ch = []
instance (t w : List Str) (ch : List Int) : Decidable (okC t w ch) := by unfold okC; exact inferInstance
end Ov
namespace Ov
open PySem (Str PyData)
open MV
end Ov
namespace Ov
open PySem (Str PyData)
open MV
end Ov
namespace Ov
open PySem (Str PyData)
open MV
end Ov
namespace Ov
open PySem (Str PyData)
open MV
def pm (t w : List Str) (p k : Nat) : Nat := mism (t.drop p) (w.take k)
end Ov
namespace Ov
open PySem (Str PyData)
open MV
abbrev T3 := Nat × Nat × Nat
abbrev dB3 (x : T3) : D := .tup [.int (x.1 : Int), .int (x.2.1 : Int), .int (x.2.2 : Int)]
def mn3 : List T3 → Option T3
  | [] => none
  | x :: xs => some (xs.foldl (fun a y => if ltD (dB3 y) (dB3 a) then y else a) x)
def way (t w : List Str) (E p : Nat) (L : List (Option T3)) (far : Nat) : Option T3 :=
  if p + far ≤ E then (match L[far - 1]? with
    | some (some x) => some (x.1 + wrV t w (p + far) (w.length - far), x.2.1 + 1, p + far)
    | _ => none) else none
def BT (t w : List Str) (E : Nat) : Nat → List (Option T3)
  | 0 => [some (0, 0, E)]
  | k + 1 => mn3 ((wayson w).filterMap (way t w E (E - k - 1) (BT t w E k))) :: BT t w E k
section
variable {t w : List Str}
end
end Ov
namespace Ov
open PySem (Str PyData)
open MV
section
variable {t w : List Str}
def bst (t w : List Str) (E p : Nat) : Option T3 := ((BT t w E (E - p)).head?).getD none
def ways (t w : List Str) (E p : Nat) : List T3 := (wayson w).filterMap fun far => if p + far ≤ E then (bst t w E (p + far)).map fun x => (x.1 + wrV t w (p + far) (w.length - far), x.2.1 + 1, p + far) else none
end
end Ov
namespace Ov
open PySem (Str PyData)
open MV
def bls (f : Bool → Bool) (R : List Bool) : List D := R.map fun b => D.bl (f b)
@[simp] theorem bls_len (f : Bool → Bool) (R : List Bool) : (bls f R).length = R.length := by unfold bls; simp
end Ov
namespace Ov
open PySem (Str PyData)
open MV
end Ov
namespace Ov
open PySem (Str PyData)
open MV
end Ov
namespace Ov
open PySem (Str PyData)
open MV
def c4 : List Str := [Str.ofString "NoWord", Str.ofString "NoSign", Str.ofString "NoText", Str.ofString "TooMany"]
end Ov
namespace Ov
open PySem (Str PyData)
open MV
abbrev marksS : Str := Str.ofString " !\"#$&'()*+,-./0123456789:;<=>?@ABCDEFGHIJKLMNOPQRSTUVWXYZ[\\]^_`{|}~\n"
def oddL : List Str := [Str.ofString "", Str.ofString "ab", Str.ofString "aa", Str.ofString "Aa"] ++ marksS.cps.toList.map fun c => ⟨#[c]⟩
theorem oddL_all : oddL.all (fun x => PyData.strOk x && decide (x.length ≤ 100) && !isSg x) = true := by decide +kernel
theorem oddL_mem {x : Str} (h : x ∈ oddL) : okS x ∧ x.length ≤ 100 ∧ isSg x = false := by
  have := List.all_eq_true.mp oddL_all x h
  simp only [Bool.and_eq_true, decide_eq_true_iff, Bool.not_eq_true'] at this
  exact ⟨this.1.1, this.1.2, this.2⟩
def Wd (t : List Str) : Prop := ∀ x ∈ t, Sg x ∨ x ∈ oddL
theorem Wd.gd {t : List Str} (h : Wd t) : Gd t := fun x hx => by
  rcases h x hx with q | q
  · exact Tx.gd (t := [x]) (fun y hy => by rw [List.mem_singleton.mp hy]; exact q) x List.mem_cons_self
  · exact ⟨(oddL_mem q).1, (oddL_mem q).2.1⟩
theorem Wd.set {t : List Str} (h : Wd t) {x : Str} (hx : x ∈ oddL) (k : Nat) : Wd (t.set k x) := fun y hy => by
  rcases List.mem_or_eq_of_mem_set hy with hy | hy
  · exact h y hy
  · rw [hy]; exact .inr hx
end Ov
namespace Ov
open PySem (Str PyData)
open MV
section
variable {t w : List Str}
end
end Ov
namespace Ov
open PySem (Str PyData)
open MV
section
variable {t w : List Str}
end
end Ov
namespace Ov
open PySem (Str PyData)
open MV
section
variable {α : Type}
end
section
variable {t w : List Str}
end
end Ov
namespace Ov
structure Dns (L : List Nat) (s E : Nat) : Prop where
  srt : Srt L
  pos : 0 < s
  last : E ∈ L
  le : ∀ p ∈ L, p ≤ E
  nx : ∀ p ∈ L, p < E → ∃ q ∈ L, p < q ∧ q ≤ p + s
def cnd (L : List Nat) (s p : Nat) : List Nat := L.filter fun q => decide (p < q) && decide (q ≤ p + s)
def far (L : List Nat) (s p : Nat) : Nat := (L.filter fun q => decide (q ≤ p + s)).getLastD p
def gr (L : List Nat) (s E p : Nat) : Nat := if p < E then 1 + gr L s E (max (p + 1) (far L s p)) else 0
termination_by E - p
decreasing_by omega
section
variable {L : List Nat} {s E : Nat}
def gd (L : List Nat) (s E p : Nat) : List Nat := (cnd L s p).filter fun q => decide (gr L s E q + 1 = gr L s E p)
def fs (L : List Nat) (s E p : Nat) : Nat := (gd L s E p).headD E
def fl (L : List Nat) (s E p : Nat) : List Nat := if p < E then fs L s E p :: fl L s E (max (p + 1) (fs L s E p)) else []
termination_by E - p
decreasing_by omega
end
end Ov
namespace Ov
open PySem (Str PyData)
open MV
theorem min1_nat {L : List Nat} (h : L ≠ []) : ∃ m, gMin1 [dN L] = some (.int ((m : Nat) : Int)) ∧ m ∈ L ∧ ∀ x ∈ L, m ≤ x := by
  have hne : L.map (fun k : Nat => (k : Int)) ≠ [] := fun e => h (List.map_eq_nil_iff.mp e)
  obtain ⟨h1, h2⟩ := minL_spec _ hne
  obtain ⟨m, m1, m2⟩ := List.mem_map.mp h1
  refine ⟨m, ?_, m1, fun x hx => ?_⟩
  · rw [dN_dI]
    show (match asInts ((L.map fun k : Nat => (k : Int)).map D.int) with | some ns => if ns = [] then none else some (D.int (minL ns)) | none => none) = _
    rw [asInts_dI]
    show (if L.map (fun k : Nat => (k : Int)) = [] then none else some (D.int (minL (L.map fun k : Nat => (k : Int))))) = _
    rw [if_neg hne, ← m2]
  · have := h2 (x : Int) (List.mem_map.mpr ⟨x, hx, rfl⟩)
    rw [← m2] at this
    omega
section
variable {t w : List Str}
end
end Ov
namespace Ov
open PySem (Str PyData)
open MV
section
variable {t w : List Str} {E : Nat}
end
end Ov
namespace Ov
open PySem (Str PyData)
open MV
section
variable {L : List Nat} {s E : Nat}
end
end Ov
namespace Ov
open PySem (Str PyData)
open MV
abbrev T3L := Nat × Nat × List Nat
section
variable {t w : List Str} {wh : Bool}
def kx (t w : List Str) (wh : Bool) (c : List Nat) : T3L := (wrV t w 0 0 + costS t w 0 c, c.length + 1, if wh then 0 :: c else [0])
end
end Ov
namespace Ov
open PySem (Str PyData)
open MV
section
variable {L : List Nat} {s E : Nat}
end
end Ov
namespace Ov
open PySem (Str PyData)
open MV
end Ov
namespace Ov
open PySem (Str PyData)
open MV
end Ov
namespace Ov
open PySem (Str PyData)
open MV
section
variable {t w : List Str}
end
end Ov
namespace Ov
open PySem (Str PyData)
open MV
section
variable {t w : List Str}
end
end Ov
namespace Ov
open PySem (Str PyData)
open MV
def gs (k : Nat) : List Nat → Nat
  | [] => 0
  | [_] => k
  | p :: q :: r => min k (q - p) + gs k (q :: r)
section
variable {t w : List Str}
end
end Ov
namespace Ov
open PySem (Str PyData)
open MV
section
variable {t : List Str}
end
end Ov
namespace Ov
open PySem (Str PyData)
open MV
section
variable {t : List Str} {k : Nat}
def fstL (t : List Str) (k i : Nat) : List Nat := (List.range i).filter (fstAt t k)
def occ (t : List Str) (k i j : Nat) : List Nat := (List.range i).filter fun p => decide (pc t k p = pc t k j)
end
end Ov
namespace Ov
open PySem (Str PyData)
open MV
section
variable {t : List Str} {k : Nat}
end
end Ov
namespace Ov
open PySem (Str PyData)
open MV
def rn (k : Nat) : Nat → List Nat → List (Nat × Nat)
  | _, [] => []
  | e, p :: L => (if e < p then [(e, p)] else []) ++ rn k (p + k) L
section
variable {t w : List Str} {k m : Nat}
end
end Ov
namespace Ov
open PySem (Str PyData)
open MV
section
variable {t w : List Str} {wh : Bool}
end
end Ov
namespace Ov
open PySem (Str PyData)
open MV
section
variable {t w : List Str} {wh : Bool}
end
end Ov
namespace Ov
open PySem (Str PyData)
open MV
end Ov
namespace Ov
open PySem (Str PyData)
open MV
theorem mism_set (x : Str) : ∀ (t b : List Str) (i : Nat), mism (t.set i x) b ≤ mism t b + 1 ∧ mism t b ≤ mism (t.set i x) b + 1
  | [], b, i => by simp [mism_nil]
  | a :: t, [], i => by simp [mism]
  | a :: t, y :: b, 0 => by
    rw [List.set_cons_zero, mism_cons, mism_cons]
    constructor <;> split <;> split <;> omega
  | a :: t, y :: b, i + 1 => by
    rw [List.set_cons_succ, mism_cons, mism_cons]
    have := mism_set x t b i
    omega
theorem mism_le : ∀ (t b : List Str), mism t b ≤ t.length
  | [], b => by simp [mism_nil]
  | a :: t, [] => by simp [mism]
  | a :: t, y :: b => by
    rw [mism_cons]
    have := mism_le t b
    simp only [List.length_cons]
    split <;> omega
theorem mism_rev : ∀ (t b : List Str), t.length = b.length → mism t.reverse b.reverse = mism t b
  | [], [], _ => rfl
  | [], y :: b, h => by simp at h
  | a :: t, [], h => by simp at h
  | a :: t, y :: b, h => by
    have h' : t.length = b.length := by simpa using h
    have ih := mism_rev t b h'
    have e : mism (t.reverse ++ [a]) (b.reverse ++ [y]) = mism t.reverse b.reverse + mism [a] [y] := by
      unfold mism
      rw [List.zip_append (by simpa using h'), List.filter_append, List.length_append]
    rw [List.reverse_cons, List.reverse_cons, e, mism_cons, mism_cons, ih, mism_nil]
    omega
def Least (t w : List Str) (n : Nat) : Prop := (∃ c, Stp' w 0 c ∧ lastN 0 c + w.length = t.length ∧ mism t (shw w (0 :: c)) = n) ∧ ∀ c, Stp' w 0 c → lastN 0 c + w.length = t.length → n ≤ mism t (shw w (0 :: c))
theorem Least.set {t w : List Str} {m n i : Nat} {x : Str} (h : Least t w m) (g : Least (t.set i x) w n) : n ≤ m + 1 ∧ m ≤ n + 1 := by
  obtain ⟨⟨c, a1, a2, a3⟩, a4⟩ := h
  obtain ⟨⟨d, b1, b2, b3⟩, b4⟩ := g
  have e1 := a4 d b1 (by simpa using b2)
  have e2 := b4 c a1 (by simpa using a2)
  have e3 := mism_set x t (shw w (0 :: c)) i
  have e4 := mism_set x t (shw w (0 :: d)) i
  omega
end Ov
namespace Ov
open PySem (Str PyData)
open MV
def plcs (a : Nat) : List Nat → List Nat
  | [] => []
  | d :: ds => (a + d) :: plcs (a + d) ds
def bld (w : List Str) : List Nat → List Str
  | [] => w
  | d :: ds => w.take d ++ bld w ds
theorem stp_plcs {w : List Str} : ∀ {r : List Nat} {a : Nat}, Stp' w a r → ∃ ds, (∀ d ∈ ds, d ∈ wayson w) ∧ r = plcs a ds
  | [], a, _ => ⟨[], by simp, rfl⟩
  | b :: r, a, h => by
    obtain ⟨⟨d, hd, rfl⟩, h2⟩ := h
    obtain ⟨ds, g1, rfl⟩ := stp_plcs h2
    exact ⟨d :: ds, by intro x hx; rcases List.mem_cons.mp hx with rfl | hx; exact hd; exact g1 x hx, rfl⟩
theorem plcs_stp {w : List Str} : ∀ {ds : List Nat} {a : Nat}, (∀ d ∈ ds, d ∈ wayson w) → Stp' w a (plcs a ds)
  | [], a, _ => trivial
  | d :: ds, a, h => ⟨⟨d, h d (by simp), rfl⟩, plcs_stp fun x hx => h x (by simp [hx])⟩
theorem plcs_last : ∀ (ds : List Nat) (a : Nat), lastN a (plcs a ds) = a + ds.sum
  | [], a => rfl
  | d :: ds, a => by
    show lastN (a + d) (plcs (a + d) ds) = _
    rw [plcs_last ds (a + d), List.sum_cons]; omega
theorem bld_go {w : List Str} : ∀ (ds : List Nat) (a : Nat) (S : List Str), S.length = a + w.length → S.drop a = w → (∀ d ∈ ds, d ∈ wayson w) →
    (plcs a ds).foldl (fun s p => ovl s p w) S = S.take a ++ bld w ds
  | [], a, S, hS, hd, _ => by
    show S = S.take a ++ w
    rw [← hd, List.take_append_drop]
  | d :: ds, a, S, hS, hd, h => by
    obtain ⟨e1, e2, e3⟩ := ovl_next hS hd (h d (by simp))
    obtain ⟨d1, d2⟩ := wayson_le (h d (by simp))
    show (plcs (a + d) ds).foldl (fun s p => ovl s p w) (ovl S (a + d) w) = S.take a ++ (w.take d ++ bld w ds)
    rw [bld_go ds (a + d) _ e3 e2 fun x hx => h x (by simp [hx]), e1, List.take_append_of_le_length (by omega), List.take_add, hd, List.append_assoc]
theorem shw_bld {w : List Str} {ds : List Nat} (h : ∀ d ∈ ds, d ∈ wayson w) : shw w (0 :: plcs 0 ds) = bld w ds := by
  rw [shw_zero, bld_go (w := w) ds 0 w (by omega) rfl h]; simp
theorem bld_snoc {w : List Str} : ∀ {ds : List Nat} {d : Nat}, d ∈ wayson w → bld w (ds ++ [d]) = bld w ds ++ w.drop (w.length - d)
  | [], d, h => by
    show w.take d ++ w = w ++ w.drop (w.length - d)
    have := wayson_shift h
    calc w.take d ++ w = w.take d ++ (w.take (w.length - d) ++ w.drop (w.length - d)) := by rw [List.take_append_drop]
      _ = _ := by rw [← this, ← List.append_assoc, List.take_append_drop]
  | e :: ds, d, h => by
    show w.take e ++ bld w (ds ++ [d]) = w.take e ++ bld w ds ++ _
    rw [bld_snoc h, List.append_assoc]
theorem wayson_rev {w : List Str} {d : Nat} (h : d ∈ wayson w) : d ∈ wayson w.reverse := by
  have s := wayson_shift h
  unfold wayson at h ⊢
  rw [List.mem_filter] at h ⊢
  refine ⟨by simpa using h.1, ?_⟩
  have hd := List.mem_range'_1.mp h.1
  rw [decide_eq_true_eq, List.length_reverse, List.drop_reverse, List.take_reverse, ← s]
  congr 2
  omega
theorem bld_rev {w : List Str} : ∀ {ds : List Nat}, (∀ d ∈ ds, d ∈ wayson w) → (bld w ds).reverse = bld w.reverse ds.reverse
  | [], _ => rfl
  | d :: ds, h => by
    have hd := h d (by simp)
    obtain ⟨d1, d2⟩ := wayson_le hd
    show (w.take d ++ bld w ds).reverse = _
    rw [List.reverse_append, List.reverse_cons, bld_snoc (wayson_rev hd), bld_rev fun x hx => h x (by simp [hx]), List.length_reverse, List.drop_reverse]
    congr 3
    omega
theorem bld_len {w : List Str} : ∀ {ds : List Nat}, (∀ d ∈ ds, d ∈ wayson w) → (bld w ds).length = ds.sum + w.length
  | [], _ => by show w.length = _; simp
  | d :: ds, h => by
    obtain ⟨d1, d2⟩ := wayson_le (h d (by simp))
    show (w.take d ++ bld w ds).length = _
    rw [List.length_append, List.length_take, bld_len fun x hx => h x (by simp [hx]), List.sum_cons]; omega
theorem least_iff {t w : List Str} {n : Nat} : Least t w n ↔ (∃ ds, (∀ d ∈ ds, d ∈ wayson w) ∧ ds.sum + w.length = t.length ∧ mism t (bld w ds) = n) ∧ ∀ ds, (∀ d ∈ ds, d ∈ wayson w) → ds.sum + w.length = t.length → n ≤ mism t (bld w ds) := by
  constructor
  · rintro ⟨⟨c, a1, a2, a3⟩, a4⟩
    obtain ⟨ds, g1, rfl⟩ := stp_plcs a1
    rw [plcs_last] at a2
    refine ⟨⟨ds, g1, by omega, by rw [← shw_bld g1]; exact a3⟩, fun es h1 h2 => ?_⟩
    rw [← shw_bld h1]
    exact a4 _ (plcs_stp h1) (by rw [plcs_last]; omega)
  · rintro ⟨⟨ds, a1, a2, a3⟩, a4⟩
    refine ⟨⟨plcs 0 ds, plcs_stp a1, by rw [plcs_last]; omega, by rw [shw_bld a1]; exact a3⟩, fun c h1 h2 => ?_⟩
    obtain ⟨es, g1, rfl⟩ := stp_plcs h1
    rw [plcs_last] at h2
    rw [shw_bld g1]
    exact a4 _ g1 (by omega)
theorem Least.rev {t w : List Str} {n : Nat} (h : Least t w n) : Least t.reverse w.reverse n := by
  rw [least_iff] at h ⊢
  obtain ⟨⟨ds, a1, a2, a3⟩, a4⟩ := h
  have lr : ∀ es : List Nat, (∀ d ∈ es, d ∈ wayson w.reverse) → ∀ d ∈ es.reverse, d ∈ wayson w := fun es g d hd => by
    have := wayson_rev (g d (by simpa using hd)); rwa [List.reverse_reverse] at this
  refine ⟨⟨ds.reverse, fun d hd => wayson_rev (a1 d (by simpa using hd)), by simpa using a2, ?_⟩, fun es h1 h2 => ?_⟩
  · rw [← bld_rev a1, mism_rev _ _ (by rw [bld_len a1]; omega)]; exact a3
  · have k := lr es h1
    have s : es.reverse.sum + w.length = t.length := by simpa using h2
    have := a4 es.reverse k s
    rw [← mism_rev _ _ (by rw [bld_len k]; omega), bld_rev k, List.reverse_reverse] at this
    exact this
end Ov
namespace Ov
open PySem (Str PyData)
open MV
theorem Least.le {t w : List Str} {n : Nat} (h : Least t w n) : n ≤ t.length := by
  obtain ⟨⟨c, a1, a2, rfl⟩, _⟩ := h
  exact mism_le _ _
end Ov
namespace Ov
open PySem (Str PyData)
open MV
def prf (f : Nat → Str) (n : Nat) : List Str := (List.range n).map f
structure Per (f : Nat → Str) (π m : Nat) : Prop where
  per : ∀ i, f (i + π) = f i
  pos : 0 < π
  div : π ∣ m
  mp : 0 < m
  ways : ∀ d, d ∈ wayson (prf f m) ↔ 1 ≤ d ∧ d ≤ m ∧ π ∣ d
section
variable {f : Nat → Str} {π m : Nat}
end
def dw (E m k : Nat) : List Nat := (List.range k).map fun i => E - (k - 1 - i) * m
inductive PwLe : List Nat → List Nat → Prop
  | nil : PwLe [] []
  | cons {x y : Nat} {a b : List Nat} : x ≤ y → PwLe a b → PwLe (x :: a) (y :: b)
section
variable {f : Nat → Str} {π m E : Nat}
def kk (E m : Nat) : Nat := (E + m - 1) / m
end
end Ov
namespace Ov
open PySem (Str PyData)
open MV
abbrev sA : Str := Str.ofString "a"
def fA : Nat → Str := fun _ => sA
end Ov
namespace Ov
open PySem (Str PyData)
open MV
end Ov
namespace Ov
open PySem (Str PyData)
open MV
end Ov
namespace Ov
open PySem (Str PyData)
open MV
end Ov
namespace Ov
open PySem (Str PyData)
open MV
end Ov
namespace Ov
open PySem (Str PyData)
open MV
end Ov
namespace Ov
open PySem (Str PyData)
open MV
end Ov
namespace Ov
open PySem (Str PyData)
open MV
end Ov
namespace Ov
open PySem (Str PyData)
open MV
end Ov
namespace Ov
open PySem (Str PyData)
open MV
end Ov
namespace Ov
open PySem (Str PyData)
open MV
theorem size_pos {a b c : Int} (hc : 0 < c) (h : a < b) : PySem.Builtin.Range.rangeSize a b c = (b - a - 1) / c + 1 := by
  unfold PySem.Builtin.Range.rangeSize
  rw [if_pos hc, if_pos h]
theorem okR3_small {r E m : Nat} (hm : 0 < m) (hr : r ≤ E) (hE : E ≤ 1000) (hm2 : m ≤ 1000) : okR3 (r : Int) ((E : Int) + 1) (m : Int) = true ∧ (PySem.Builtin.Range.rangeSize (r : Int) ((E : Int) + 1) (m : Int)).toNat = (E - r) / m + 1 := by
  have sz := size_pos (a := (r : Int)) (b := (E : Int) + 1) (c := (m : Int)) (by omega) (by omega)
  have e1 : ((E : Int) + 1 - (r : Int) - 1) / (m : Int) = (((E - r) / m : Nat) : Int) := by
    rw [show (E : Int) + 1 - (r : Int) - 1 = ((E - r : Nat) : Int) by omega, Int.natCast_ediv]
  rw [e1] at sz
  have le : (E - r) / m ≤ E := Nat.le_trans (Nat.div_le_self _ _) (by omega)
  have mm : (E - r) / m * m ≤ E - r := Nat.div_mul_le_self _ _
  generalize (E - r) / m = Q at sz le mm ⊢
  have tn : (PySem.Builtin.Range.rangeSize (r : Int) ((E : Int) + 1) (m : Int)).toNat = Q + 1 := by rw [sz]; omega
  refine ⟨?_, tn⟩
  unfold okR3
  rw [tn, Bool.and_eq_true, Bool.and_eq_true, Bool.and_eq_true, decide_eq_true_iff, decide_eq_true_iff, decide_eq_true_iff]
  refine ⟨⟨⟨by omega, by rw [Int.natAbs_natCast]; omega⟩, ?_⟩, by show _ ≤ 100000; omega⟩
  have mq : (Q : Int) * (m : Int) ≤ 1000 := by
    have : ((Q * m : Nat) : Int) ≤ 1000 := by omega
    rw [Int.natCast_mul] at this; exact this
  have mq0 : 0 ≤ (Q : Int) * (m : Int) := Int.mul_nonneg (by omega) (by omega)
  have mq2 : ((Q : Int) + 1) * (m : Int) = (Q : Int) * (m : Int) + (m : Int) := by rw [Int.add_mul, Int.one_mul]
  unfold PySem.Builtin.Range.small
  rw [sz]
  simp only [PySem.Builtin.Range.rangeFitsLong, Bool.and_eq_true, Bool.or_eq_true, decide_eq_true_eq, beq_iff_eq]
  rw [if_pos (show (m : Int) > 0 by omega)]
  simp only [Bool.and_eq_true, decide_eq_true_eq]
  omega
theorem rngC_nat (r m n : Nat) : rngC (r : Int) (m : Int) n = ((List.range n).map fun i => r + i * m).map fun k : Nat => D.int (k : Int) := by
  unfold rngC
  rw [List.map_map]
  refine List.map_congr_left fun i _ => ?_
  show D.int ((r : Int) + (i : Int) * (m : Int)) = D.int ((r + i * m : Nat) : Int)
  rw [Int.natCast_add, Int.natCast_mul]
end Ov
namespace Ov
open PySem (Str PyData)
open MV
end Ov
namespace Ov
open PySem (Str PyData)
open MV
end Ov
namespace Ov
open PySem (Str PyData)
open MV
end Ov
namespace Ov
open PySem (Str PyData)
open MV
section
variable {w : List Str} {ds : List Nat}
end
def Gl (w : Nat) : Nat → List Nat → Prop
  | _, [] => True
  | r, p :: L => p ≤ r ∧ Gl w (p + w) L
section
variable {t w : List Str} {x : Str} {a : Nat}
end
end Ov
namespace Ov
open PySem (Str PyData)
open MV
def prm (w : List Str) : List Nat := (wayson w).filter fun d => decide ((wayson w).filter (fun e => decide (e < d) && decide (((bld w [d]).drop e).take w.length = w)) = [])
section
variable {w : List Str}
end
end Ov
namespace Ov
open PySem (Str PyData)
open MV
section
variable {N : List Nat}
def cl (N : List Nat) : Nat → List Nat
  | 0 => [1]
  | m + 1 => cl N m ++ [((N.filter fun d => decide (d ≤ m + 1)).map fun d => (cl N m).getD (m + 1 - d) 0).sum]
def cnt (N : List Nat) (m : Nat) : Nat := (cl N m).getD m 0
def cv (N : List Nat) (m d : Nat) : Nat := if d ≤ m then cnt N (m - d) else 0
section
variable (hN : ∀ d ∈ N, 1 ≤ d)
include hN
end
end
end Ov
namespace Ov
open PySem (Str PyData)
open MV
def nD (w : List Str) (d : Nat) : D := .tup [dT (w.drop (w.length - d)), .int (d : Int)]
def nx (w : List Str) : List Nat := (prm w).mergeSort fun a b => leD (nD w a) (nD w b)
section
variable {w : List Str}
end
end Ov
namespace Ov
open PySem (Str PyData)
open MV
section
variable {w : List Str}
end
end Ov
namespace Ov
open PySem (Str PyData)
open MV
section
variable {w : List Str} {N : List Nat}
end
end Ov
namespace Ov
open PySem (Str PyData)
open MV
section
variable {w : List Str} {N : List Nat}
end
end Ov
namespace Ov
open PySem (Str PyData)
open MV
section
variable {w : List Str}
end
end Ov
namespace Ov
open PySem (Str PyData)
open MV
section
variable {t w : List Str}
end
end Ov
namespace Ov
open PySem (Str PyData)
open MV
section
variable {w : List Str}
end
end Ov
namespace Ov
open PySem (Str PyData)
open MV
end Ov
namespace Ov
open PySem (Str PyData)
open MV
end Ov
namespace Ov
open PySem (Str PyData)
open MV
end Ov
namespace Ov
open PySem (Str PyData)
open MV
end Ov
namespace Ov
open PySem (Str PyData)
open MV
section
variable {w : List Str}
end
end Ov
namespace Ov
open PySem (Str PyData)
open MV
end Ov
namespace Ov
open PySem (Str PyData)
open MV
end Ov
namespace Ov
open PySem (Str PyData)
open MV
end Ov
namespace Ov
open PySem (Str PyData)
open MV
section
variable {t : List Str} {k : Nat}
end
end Ov
namespace MV
open PySem PySem.Spec PyProof.Rows L2
section
variable {X : Cx} {cf : Cf} {W : WX} {c : Cls} {n n1 n2 n3 : Bool}
end
end MV
namespace Ov
open PySem MV
end Ov
namespace Ov
open PySem (Str PyData)
open MV
def lsI (k : Nat) (L : List Nat) : Int := match L.getLast? with
  | none => -(k : Int)
  | some q => (q : Int)
section
variable {t : List Str} {k : Nat}
def eDk (k : Nat) (L : List Nat) : D := .tup [.int (lsI k L), .int ((gs k L : Nat) : Int)]
def mP (t : List Str) (k i : Nat) : List (List L2.Key × D) := (fstL t k i).map fun j => (metK (pc t k j), eDk k (occ t k i j))
end
end Ov
namespace MV
open PySem PySem.Spec PyProof.Rows L2
theorem tuoL_get : ∀ {ds : List D} {i : Nat} {d : D}, tuoL ds = true → ds[i]? = some d → d.tuo = true
  | [], _, _, _, h => by simp at h
  | d :: ds, 0, _, t, h => by
    rw [tuoL, Bool.and_eq_true] at t
    cases h; exact t.1
  | d :: ds, i + 1, _, t, h => by
    rw [tuoL, Bool.and_eq_true] at t
    exact tuoL_get t.2 h
theorem ref_lst {K : PySem.W.Frag} {G : Hp} {a : Addr} {ys : List V} {d : D} (ha : G a = some (.lst ys)) (h : Rp K true G (.ref a) d) (t : d.tuo = true) : False := by
  generalize hv : V.ref a = v at h
  cases h with
  | sc h => subst hv; cases d <;> cases h
  | tup h r => cases hv; have h : G a = some (.tup _) := h; rw [ha] at h; cases h
  | lst h r => rw [D.tuo] at t; · cases t
               · intro _ z; cases z
  | dic h l r => rw [D.tuo] at t; · cases t
                 · intro _ z; cases z
  | dit h l r => rw [D.tuo] at t; · cases t
                 · intro _ z; cases z
  | exc h => rw [D.tuo] at t; · cases t
             · intro _ z; cases z
mutual
theorem Rp.thN {K : PySem.W.Frag} {G : Hp} {p a : Addr} {xs ys : List V} (hp : G p = some (.tup xs)) (ha : G a = some (.lst ys)) (hm : V.ref a ∈ xs) : ∀ {v : V} {d : D}, Rp K true G v d → d.tuo = true → Rp K true (TH (rm G [p, a])) v d
  | _, _, .sc h, _ => .sc h
  | _, .tup ds, .tup (a := b) h r, t => by
    have t : tuoL ds = true := by rw [D.tuo] at t; exact t
    have h : G b = some (.tup _) := h
    have nb : b ∉ [p, a] := fun m => by
      rcases List.mem_cons.mp m with rfl | m
      · rw [hp] at h; cases h
        obtain ⟨i, hi, e⟩ := List.getElem_of_mem hm
        obtain ⟨d', d1, d2⟩ := r.getV (by rw [List.getElem?_eq_getElem hi, e])
        exact ref_lst ha d2 (tuoL_get t d1)
      · rw [List.mem_singleton.mp m, ha] at h; cases h
    exact .tup (th_tup (by unfold rm; rw [if_neg nb]; exact h)) (RpL.thN hp ha hm r t)
  | _, _, .lst h r, t => by rw [D.tuo] at t; · cases t
                            · intro _ z; cases z
  | _, _, .dic h l r, t => by rw [D.tuo] at t; · cases t
                              · intro _ z; cases z
  | _, _, .dit h l r, t => by rw [D.tuo] at t; · cases t
                              · intro _ z; cases z
  | _, _, .exc h, t => by rw [D.tuo] at t; · cases t
                          · intro _ z; cases z
theorem RpL.thN {K : PySem.W.Frag} {G : Hp} {p a : Addr} {xs ys : List V} (hp : G p = some (.tup xs)) (ha : G a = some (.lst ys)) (hm : V.ref a ∈ xs) : ∀ {vs : List V} {ds : List D}, RpL K true G vs ds → tuoL ds = true → RpL K true (TH (rm G [p, a])) vs ds
  | _, _, .nil, _ => .nil
  | _, _, .cons h r, t => by
    rw [tuoL, Bool.and_eq_true] at t
    exact .cons (Rp.thN hp ha hm h t.1) (RpL.thN hp ha hm r t.2)
end
section
variable {X : Cx} {cf : Cf} {W : WX} {c : Cls} {n n1 n2 : Bool}
end
end MV
namespace Ov
open PySem MV
end Ov
namespace Ov
open PySem MV
def B__law_renamed : M Fl := (sSeq (sSet 3 (eC (.str (Str.ofString "abcdefghijklmnopqrstuvwxyz"))))
  (sRet (eF (eLc [4] (iL (eV 0)) (tgN 4) tTrue (e2 gIx (eV 3) (e2 gMod (e2 gAdd (e2 gMul (eV 2) (eM "str" gSIndex (eV 3) (aCons (eV 4) aNil))) (eV 1)) (eC (.int 26))))))))
def F__law_renamed : List D → FR := runF 5 B__law_renamed
end Ov
namespace Ov
open PySem (Str PyData)
open MV
theorem map_inj_on {ρ : Str → Str} (h : ∀ x y, Sg x → Sg y → ρ x = ρ y → x = y) : ∀ {a b : List Str}, Tx a → Tx b → (a.map ρ = b.map ρ ↔ a = b)
  | [], [], _, _ => by simp
  | [], _ :: _, _, _ => by simp
  | _ :: _, [], _, _ => by simp
  | x :: a, y :: b, ha, hb => by
    have ih := map_inj_on h (a := a) (b := b) (fun z hz => ha z (List.mem_cons_of_mem _ hz)) (fun z hz => hb z (List.mem_cons_of_mem _ hz))
    rw [List.map_cons, List.map_cons, List.cons.injEq, List.cons.injEq, ih]
    exact ⟨fun ⟨p, q⟩ => ⟨h x y (ha x List.mem_cons_self) (hb y List.mem_cons_self) p, q⟩, fun ⟨p, q⟩ => ⟨by rw [p], q⟩⟩
section
variable {t w : List Str} {k : Nat}
end
end Ov
namespace Ov
open PySem (Str PyData)
open MV
section
variable {t : List Str}
theorem told_eq : ((bord t).reverse.map fun k => t.length - k) = pers t := by
  unfold bord pers
  refine rev_filter fun k hk => ?_
  rw [show t.length - (t.length - k) = k by omega]
theorem mem_pers {m : Nat} : m ∈ pers t ↔ 1 ≤ m ∧ m ≤ t.length ∧ ∀ k, k < t.length - m → t[m + k]? = t[k]? := by
  unfold pers
  rw [List.mem_filter, List.mem_range'_1, decide_eq_true_iff, per_iff]
  constructor
  · rintro ⟨⟨a, b⟩, c⟩; exact ⟨a, by omega, c⟩
  · rintro ⟨a, b, c⟩; exact ⟨⟨a, by omega⟩, c⟩
theorem per_sub {p q : Nat} (hp : p ∈ pers t) (hq : q ∈ pers t) (h : p + q ≤ t.length) (hl : p < q) : q - p ∈ pers t := by
  obtain ⟨p1, p2, p3⟩ := mem_pers.mp hp
  obtain ⟨q1, q2, q3⟩ := mem_pers.mp hq
  refine mem_pers.mpr ⟨by omega, by omega, fun k hk => ?_⟩
  by_cases c : k < t.length - q
  · have a := q3 k c
    have b := p3 (q - p + k) (by omega)
    rw [show p + (q - p + k) = q + k by omega] at b
    rw [← b, a]
  · have a := p3 (k - p) (by omega)
    have b := q3 (k - p) (by omega)
    rw [show p + (k - p) = k by omega] at a
    rw [show q + (k - p) = q - p + k by omega] at b
    rw [b, a]
theorem per_gcd : ∀ (n p q : Nat), p + q ≤ n → p ∈ pers t → q ∈ pers t → p + q ≤ t.length → Nat.gcd p q ∈ pers t
  | 0, p, q, h, hp, _, _ => by have := (mem_pers.mp hp).1; omega
  | n + 1, p, q, h, hp, hq, hl => by
    have p1 := (mem_pers.mp hp).1
    have q1 := (mem_pers.mp hq).1
    rcases Nat.lt_trichotomy p q with c | c | c
    · have := per_gcd n p (q - p) (by omega) hp (per_sub hp hq hl c) (by omega)
      rw [Nat.gcd_sub_self_right (by omega)] at this
      exact this
    · subst c; rw [Nat.gcd_self]; exact hp
    · have := per_gcd n (p - q) q (by omega) (per_sub hq hp (by omega) c) hq (by omega)
      rw [Nat.gcd_sub_self_left (by omega)] at this
      exact this
theorem bord_rev : bord t.reverse = bord t := by
  unfold bord
  rw [List.length_reverse]
  refine List.filter_congr fun k hk => ?_
  have hk := List.mem_range.mp hk
  rw [Bool.eq_iff_iff, decide_eq_true_iff, decide_eq_true_iff]
  rw [List.take_reverse, List.drop_reverse, show t.length - (t.length - k) = k by omega, List.reverse_inj]
  exact eq_comm
theorem pers_map {ρ : Str → Str} (h : ∀ x y, Sg x → Sg y → ρ x = ρ y → x = y) (ht : Tx t) : pers (t.map ρ) = pers t := by
  unfold pers
  rw [List.length_map]
  refine List.filter_congr fun m _ => ?_
  rw [← List.map_take, ← List.map_drop, Bool.eq_iff_iff, decide_eq_true_iff, decide_eq_true_iff]
  exact map_inj_on h (ht.take _) (ht.drop _)
theorem bord_head (t0 : t ≠ []) : ∃ r, bord t = 0 :: r := by
  have p0 := List.length_pos_iff.mpr t0
  unfold bord
  obtain ⟨n, hn⟩ : ∃ n, t.length = n + 1 := ⟨t.length - 1, by omega⟩
  rw [hn, List.range_succ_eq_map, List.filter_cons, if_pos]
  · exact ⟨_, rfl⟩
  · rw [decide_eq_true_iff, show n + 1 - 0 = t.length by omega, List.drop_length]; rfl
theorem pers_last (t0 : t ≠ []) : ∃ r, pers t = r ++ [t.length] := by
  obtain ⟨r, hr⟩ := bord_head t0
  rw [← told_eq, hr, List.reverse_cons, List.map_append]
  exact ⟨_, rfl⟩
theorem range_last {p : Nat → Bool} {n g : Nat} {r : List Nat} (h : (List.range n).filter p = r ++ [g]) : r = (List.range g).filter p ∧ g < n ∧ p g = true := by
  have gm : g ∈ (List.range n).filter p := by rw [h]; simp
  obtain ⟨g1, g2⟩ := List.mem_filter.mp gm
  have g1 := List.mem_range.mp g1
  refine ⟨?_, g1, g2⟩
  have srt : (r ++ [g]).Pairwise (· < ·) := by rw [← h]; exact List.Pairwise.filter _ List.pairwise_lt_range
  have e : (List.range n).filter p = (List.range g).filter p ++ (List.range' g (n - g)).filter p := by
    rw [← List.filter_append]
    congr 1
    have : List.range n = List.range' 0 g ++ List.range' (0 + g) (n - g) := by
      rw [List.range'_append_1, List.range_eq_range']; congr 1; omega
    rw [this, ← List.range_eq_range', Nat.zero_add]
  have e2 : List.range' g (n - g) = g :: List.range' (g + 1) (n - g - 1) := by
    obtain ⟨k, hk⟩ : ∃ k, n - g = k + 1 := ⟨n - g - 1, by omega⟩
    rw [hk]; rfl
  rw [e2, List.filter_cons, if_pos g2] at e
  have tail : (List.range' (g + 1) (n - g - 1)).filter p = [] := by
    rw [List.eq_nil_iff_forall_not_mem]
    intro x hx
    have xm : x ∈ (List.range n).filter p := by rw [e]; exact List.mem_append_right _ (List.mem_cons_of_mem _ hx)
    have x1 := (List.mem_range'_1.mp (List.mem_filter.mp hx).1).1
    rw [h] at xm
    rcases List.mem_append.mp xm with z | z
    · have := (List.pairwise_append.mp srt).2.2 x z g (by simp)
      omega
    · rw [List.mem_singleton.mp z] at x1; omega
  rw [tail, h] at e
  exact (List.append_inj' e rfl).1
theorem bord_last {g : Nat} {r : List Nat} (h : bord t = r ++ [g]) : bord (t.take g) = r ∧ g < t.length := by
  obtain ⟨a, b, c⟩ := range_last h
  have ig : isB t t.length g := (bord_eq g).mp (by rw [h]; simp)
  refine ⟨?_, b⟩
  rw [a]
  have tl : (t.take g).length = g := by rw [List.length_take]; omega
  unfold bord
  rw [tl]
  refine List.filter_congr fun k hk => ?_
  have hk := List.mem_range.mp hk
  rw [Bool.eq_iff_iff, decide_eq_true_iff, decide_eq_true_iff]
  have h1 := isB_iff (t := t) (k := k) (by omega)
  have h2 := isB_iff (t := t.take g) (k := k) (by rw [tl]; exact hk)
  rw [tl] at h2
  rw [← h1, ← h2]
  have e : isB (t.take g) g k ↔ isB t g k := by
    unfold isB
    rw [tl]
    constructor
    · rintro ⟨q1, q2, q3⟩
      refine ⟨q1, by omega, fun j hj => ?_⟩
      have := q3 j hj
      rw [List.getElem?_take, List.getElem?_take, if_pos (by omega), if_pos (by omega)] at this
      exact this
    · rintro ⟨q1, q2, q3⟩
      refine ⟨q1, by omega, fun j hj => ?_⟩
      rw [List.getElem?_take, List.getElem?_take, if_pos (by omega), if_pos (by omega)]
      exact q3 j hj
  rw [e]
  exact ⟨fun h => isB_trans ig h, fun h => isB_down ig h hk⟩
theorem lies_own_first {b : Nat} (hb : b ≤ t.length) : (lies t (t.take b))[0]? = some 0 := by
  rw [← List.head?_eq_getElem?]
  unfold lies
  rw [List.head?_filter, List.find?_range_eq_some]
  have tl : (t.take b).length = b := by rw [List.length_take]; omega
  rw [tl]
  exact ⟨decide_eq_true rfl, List.mem_range.mpr (by omega), fun q hq => by omega⟩
theorem lies_own_last {b : Nat} (h : isB t t.length b) : (lies t (t.take b)).getLast? = some (t.length - b) := by
  have bl := h.1
  have tl : (t.take b).length = b := by rw [List.length_take]; omega
  unfold lies
  rw [tl, show t.length + 1 - b = (t.length - b) + 1 by omega, range_filter_succ, if_pos]
  · rw [List.getLast?_concat]
  · rw [decide_eq_true_iff, (isB_iff bl).mp h, List.take_of_length_le]
    rw [List.length_drop]; omega
theorem bord_down {b : Nat} (h : isB t t.length b) (b0 : 0 < b) : b - 1 ∈ bord t.dropLast := by
  have bl := h.1
  rw [bord_eq]
  have dl : t.dropLast.length = t.length - 1 := List.length_dropLast
  refine ⟨by omega, Nat.le_refl _, fun j hj => ?_⟩
  rw [List.dropLast_eq_take, List.getElem?_take, List.getElem?_take, List.length_take, if_pos (by omega), if_pos (by omega)]
  rw [h.2.2 j (by omega)]
  congr 1; omega
end
end Ov
namespace Ov
open PySem (Str PyData)
open MV
section
variable {t : List Str}
def Rot (t : List Str) (p : Nat) : Prop := ∀ j, j < t.length → t[(p + j) % t.length]? = t[j]?
theorem rot_zero : Rot t 0 := fun j hj => by rw [Nat.zero_add, Nat.mod_eq_of_lt hj]
theorem rot_full : Rot t t.length := fun j hj => by rw [Nat.add_mod_left, Nat.mod_eq_of_lt hj]
theorem rot_add {p q : Nat} (hp : Rot t p) (hq : Rot t q) : Rot t (p + q) := fun j hj => by
  have n0 : 0 < t.length := by omega
  have a := hp ((q + j) % t.length) (Nat.mod_lt _ n0)
  rw [Nat.add_mod_mod, ← Nat.add_assoc] at a
  rw [a]
  exact hq j hj
theorem rot_sub {p q : Nat} (h : Rot t (p + q)) (hq : Rot t q) : Rot t p := fun j hj => by
  have n0 : 0 < t.length := by omega
  have ql := Nat.mod_lt q n0
  have e : (q + (j + (t.length - q % t.length)) % t.length) % t.length = j := by
    rw [Nat.add_mod_mod]
    have := Nat.div_add_mod q t.length
    have e2 : q + (j + (t.length - q % t.length)) = j + t.length * (q / t.length + 1) := by
      rw [Nat.mul_add, Nat.mul_one]; omega
    rw [e2, Nat.add_mul_mod_self_left, Nat.mod_eq_of_lt hj]
  have i1 := Nat.mod_lt (j + (t.length - q % t.length)) n0
  have a := hq _ i1
  have b := h _ i1
  rw [e] at a
  rw [Nat.add_assoc, ← Nat.add_mod_mod, e] at b
  rw [b, a]
theorem rot_gcd : ∀ (n a b : Nat), a + b ≤ n → Rot t a → Rot t b → Rot t (Nat.gcd a b)
  | 0, a, b, h, _, hb => by
    have : a = 0 := by omega
    subst this
    rw [Nat.gcd_zero_left]; exact hb
  | n + 1, a, b, h, ha, hb => by
    by_cases a0 : a = 0
    · subst a0; rw [Nat.gcd_zero_left]; exact hb
    by_cases b0 : b = 0
    · subst b0; rw [Nat.gcd_zero_right]; exact ha
    rcases Nat.lt_or_ge a b with c | c
    · have := rot_gcd n a (b - a) (by omega) ha (rot_sub (p := b - a) (q := a) (by rw [Nat.sub_add_cancel (by omega)]; exact hb) ha)
      rw [Nat.gcd_sub_self_right (by omega)] at this
      exact this
    · have := rot_gcd n (a - b) b (by omega) (rot_sub (p := a - b) (q := b) (by rw [Nat.sub_add_cancel c]; exact ha) hb) hb
      rw [Nat.gcd_sub_self_left c] at this
      exact this
theorem rot_mul {d : Nat} (h : Rot t d) : ∀ k, Rot t (d * k)
  | 0 => rot_zero
  | k + 1 => by rw [Nat.mul_succ]; exact rot_add (rot_mul h k) h
theorem per_iter {p : Nat} (hp : p ∈ pers t) : ∀ j, j < t.length → t[j]? = t[j % p]? := by
  obtain ⟨p1, p2, p3⟩ := mem_pers.mp hp
  intro j
  induction j using Nat.strongRecOn with
  | ind j ih =>
    intro hj
    by_cases c : j < p
    · rw [Nat.mod_eq_of_lt c]
    · have a := p3 (j - p) (by omega)
      rw [show p + (j - p) = j by omega] at a
      rw [a, ih (j - p) (by omega) (by omega), Nat.mod_eq_sub_mod (by omega : p ≤ j)]
theorem per_rot {p : Nat} (hp : p ∈ pers t) (hd : p ∣ t.length) : Rot t p := fun j hj => by
  have n0 : 0 < t.length := by omega
  rw [per_iter hp _ (Nat.mod_lt _ n0), Nat.mod_mod_of_dvd _ hd, Nat.add_mod_left, ← per_iter hp j hj]
theorem rot_per {p : Nat} (h : Rot t p) (p1 : 1 ≤ p) (p2 : p ≤ t.length) : p ∈ pers t :=
  mem_pers.mpr ⟨p1, p2, fun k hk => by
    have := h k (by omega)
    rw [Nat.mod_eq_of_lt (by omega)] at this
    exact this⟩
theorem rot_iff {d : Nat} (hd : d ∈ pers t) (hv : d ∣ t.length) (hm : ∀ e, e ∈ pers t → e ∣ t.length → d ≤ e) {p : Nat} (n0 : 0 < t.length) : Rot t p ↔ d ∣ p := by
  constructor
  · intro hp
    have r1 := rot_gcd _ p t.length (Nat.le_refl _) hp rot_full
    have r2 := rot_gcd _ _ d (Nat.le_refl _) r1 (per_rot hd hv)
    generalize hg : Nat.gcd p t.length = g at *
    have gn : g ∣ t.length := by rw [← hg]; exact Nat.gcd_dvd_right _ _
    have gp : g ∣ p := by rw [← hg]; exact Nat.gcd_dvd_left _ _
    have e1 : Nat.gcd g d ∣ t.length := Nat.dvd_trans (Nat.gcd_dvd_left _ _) gn
    have e0 : 0 < Nat.gcd g d := Nat.pos_of_dvd_of_pos e1 n0
    have el := Nat.le_of_dvd n0 e1
    have dle := hm _ (rot_per r2 e0 el) e1
    have ed : Nat.gcd g d ∣ d := Nat.gcd_dvd_right _ _
    have d0 := (mem_pers.mp hd).1
    have := Nat.le_of_dvd (by omega) ed
    have eq : Nat.gcd g d = d := by omega
    have dg : d ∣ g := by rw [← eq]; exact Nat.gcd_dvd_left _ _
    exact Nat.dvd_trans dg gp
  · rintro ⟨k, rfl⟩
    exact rot_mul (per_rot hd hv) k
theorem twice_rot {p : Nat} (hp : p < t.length) : ((t ++ t).drop p).take t.length = t ↔ Rot t p := by
  rw [take_drop_iff (by rw [List.length_append]; omega)]
  have e : ∀ k, k < t.length → (t ++ t)[p + k]? = t[(p + k) % t.length]? := fun k hk => by
    by_cases c : p + k < t.length
    · rw [List.getElem?_append_left c, Nat.mod_eq_of_lt c]
    · rw [List.getElem?_append_right (by omega), Nat.mod_eq_sub_mod (by omega), Nat.mod_eq_of_lt (by omega)]
  constructor
  · intro h j hj; rw [← e j hj]; exact h j hj
  · intro h k hk; rw [e k hk]; exact h k hk
theorem range_dvd {d : Nat} (d0 : 0 < d) : ∀ q, (List.range (d * q)).filter (fun p => decide (d ∣ p)) = (List.range q).map (· * d)
  | 0 => rfl
  | q + 1 => by
    have e : List.range (d * (q + 1)) = List.range (d * q) ++ List.range' (d * q) d := by
      have : List.range' 0 (d * (q + 1)) = List.range' 0 (d * q) ++ List.range' (0 + d * q) d := by
        rw [List.range'_append_1, Nat.mul_succ]
      rw [List.range_eq_range', this, ← List.range_eq_range', Nat.zero_add]
    obtain ⟨k, rfl⟩ : ∃ k, d = k + 1 := ⟨d - 1, by omega⟩
    rw [e, List.filter_append, range_dvd d0 q, List.range_succ, List.map_append]
    congr 1
    have : List.range' ((k + 1) * q) (k + 1) = (k + 1) * q :: List.range' ((k + 1) * q + 1) k := rfl
    rw [this, List.filter_cons, if_pos (decide_eq_true ⟨q, rfl⟩)]
    have tail : (List.range' ((k + 1) * q + 1) k).filter (fun p => decide (k + 1 ∣ p)) = [] := by
      rw [List.filter_eq_nil_iff]
      intro x hx
      rw [decide_eq_true_iff]
      rintro ⟨m, rfl⟩
      obtain ⟨h1, h2⟩ := List.mem_range'_1.mp hx
      have a : q < m := by
        rcases Nat.lt_or_ge q m with h | h
        · exact h
        · have := Nat.mul_le_mul_left (k + 1) h; omega
      have := Nat.mul_le_mul_left (k + 1) (show q + 1 ≤ m from a)
      rw [Nat.mul_succ] at this
      omega
    rw [tail, Nat.mul_comm]; rfl
theorem twice_eq {d : Nat} (hd : d ∈ pers t) (hv : d ∣ t.length) (hm : ∀ e, e ∈ pers t → e ∣ t.length → d ≤ e) (n0 : 0 < t.length) : ((lies (t ++ t) t).filter fun p => decide (p < t.length)) = (List.range (t.length / d)).map (· * d) := by
  have d0 := (mem_pers.mp hd).1
  obtain ⟨q, hq⟩ := hv
  have e : t.length / d = q := by rw [hq]; exact Nat.mul_div_cancel_left q d0
  rw [e, ← range_dvd d0 q, ← hq]
  unfold lies
  rw [List.length_append, show t.length + t.length + 1 - t.length = t.length + 1 by omega, List.range_succ, List.filter_append, List.filter_append]
  have l : (([t.length].filter fun p => decide (((t ++ t).drop p).take t.length = t)).filter fun p => decide (p < t.length)) = [] := by
    rw [List.filter_eq_nil_iff]
    intro x hx
    have := (List.mem_filter.mp hx).1
    rw [List.mem_singleton.mp this, decide_eq_true_iff]
    omega
  rw [l, List.append_nil, List.filter_filter]
  refine List.filter_congr fun p hp => ?_
  have hp := List.mem_range.mp hp
  rw [Bool.eq_iff_iff, Bool.and_eq_true, decide_eq_true_iff, decide_eq_true_iff, decide_eq_true_iff, twice_rot hp, rot_iff hd ⟨q, hq⟩ hm n0]
  exact ⟨fun h => h.2, fun h => ⟨hp, h⟩⟩
end
end Ov
namespace MV
open PySem PySem.Spec PyProof.Rows L2
def pairD : D → Option (Key × D)
  | .tup [k, v] => (keyD k).map fun kk => (kk, v)
  | _ => none
def pairsD : List D → Option (List (Key × D))
  | [] => some []
  | d :: ds => match pairD d, pairsD ds with
    | some p, some r => some (p :: r)
    | _, _ => none
def mergeD (kvs : List (Key × D)) (more : List (Key × D)) : List (Key × D) := more.foldl (fun acc kv => dput acc kv.1 kv.2) kvs
def gDictP : List D → Option D
  | [.lst ds] => (pairsD ds).map fun m => .dic (mergeD [] m)
  | _ => none
def rDictP (K : PySem.W.Frag) : List V → Hp → VK → Prop := fun xs H Q => ∃ (a : Addr) (ps : List Addr) (kvs : List (Key × V)), xs = [.ref a] ∧ SqL K H a (ps.map V.ref) ∧ Paired (fun p kv => SqT K H p [kV kv.1, kv.2]) ps kvs ∧
    ∀ p, H p = none → Q (.ref p) (upd H p (.dK (mergeK [] kvs)))
theorem put_keys {kvs' : List (Key × V)} {kvs : List (Key × D)} {k : Key} {v : V} {d : D} (h : kvs'.map (·.1) = kvs.map (·.1)) : (putK kvs' k v).map (·.1) = (dput kvs k d).map (·.1) := by
  have an : (kvs'.any fun kv => decide (kv.1 = k)) = (kvs.any fun kv => decide (kv.1 = k)) := any_rp h
  unfold putK dput
  rw [an]
  by_cases c : (kvs.any fun kv => decide (kv.1 = k)) = true
  · rw [if_pos c, if_pos c, List.map_map, List.map_map]
    have e1 : kvs'.map ((·.1) ∘ fun kv => if kv.1 = k then (kv.1, v) else kv) = kvs'.map (·.1) := List.map_congr_left fun x _ => by show (if x.1 = k then (x.1, v) else x).1 = x.1; split <;> rfl
    have e2 : kvs.map ((·.1) ∘ fun kv => if kv.1 = k then (kv.1, d) else kv) = kvs.map (·.1) := List.map_congr_left fun x _ => by show (if x.1 = k then (x.1, d) else x).1 = x.1; split <;> rfl
    exact e1.trans (h.trans e2.symm)
  · rw [if_neg c, if_neg c, List.map_append, List.map_append, h]; rfl
theorem put_vals {K : PySem.W.Frag} {G : Hp} {k : Key} {v : V} {d : D} (hv : Rp K true G v d) : ∀ {kvs' : List (Key × V)} {kvs : List (Key × D)}, kvs'.map (·.1) = kvs.map (·.1) → RpL K true G (kvs'.map (·.2)) (kvs.map (·.2)) → RpL K true G ((putK kvs' k v).map (·.2)) ((dput kvs k d).map (·.2)) := by
  intro kvs' kvs h r
  have an : (kvs'.any fun kv => decide (kv.1 = k)) = (kvs.any fun kv => decide (kv.1 = k)) := any_rp h
  unfold putK dput
  rw [an]
  by_cases c : (kvs.any fun kv => decide (kv.1 = k)) = true
  · rw [if_pos c, if_pos c, List.map_map, List.map_map]
    clear an c
    induction kvs' generalizing kvs with
    | nil =>
      cases kvs with
      | nil => exact .nil
      | cons _ _ => cases h
    | cons p r' ih =>
      cases kvs with
      | nil => cases h
      | cons q s =>
        rw [List.map_cons, List.map_cons] at h r
        injection h with e1 e2
        cases r with
        | cons r1 r2 =>
          rw [List.map_cons, List.map_cons]
          refine .cons ?_ (ih e2 r2)
          show Rp K true G (if p.1 = k then (p.1, v) else p).2 (if q.1 = k then (q.1, d) else q).2
          by_cases e : p.1 = k
          · rw [if_pos e, if_pos (e1 ▸ e)]; exact hv
          · rw [if_neg e, if_neg (fun z => e (e1.trans z))]; exact r1
  · rw [if_neg c, if_neg c, List.map_append, List.map_append]
    exact r.append (.cons hv .nil)
theorem merge_rp {K : PySem.W.Frag} {G : Hp} : ∀ {more' : List (Key × V)} {more : List (Key × D)} {kvs' : List (Key × V)} {kvs : List (Key × D)}, more'.map (·.1) = more.map (·.1) → RpL K true G (more'.map (·.2)) (more.map (·.2)) → kvs'.map (·.1) = kvs.map (·.1) → RpL K true G (kvs'.map (·.2)) (kvs.map (·.2)) →
    (mergeK kvs' more').map (·.1) = (mergeD kvs more).map (·.1) ∧ RpL K true G ((mergeK kvs' more').map (·.2)) ((mergeD kvs more).map (·.2))
  | [], [], _, _, _, _, h, r => ⟨h, r⟩
  | p :: m', q :: m, kvs', kvs, h1, r1, h, r => by
    rw [List.map_cons, List.map_cons] at h1 r1
    injection h1 with e1 e2
    cases r1 with
    | cons r1 r2 =>
      show (mergeK (putK kvs' p.1 p.2) m').map _ = (mergeD (dput kvs q.1 q.2) m).map _ ∧ RpL K true G ((mergeK (putK kvs' p.1 p.2) m').map _) ((mergeD (dput kvs q.1 q.2) m).map _)
      have e1 : p.1 = q.1 := e1
      rw [e1]
      exact merge_rp e2 r2 (put_keys h) (put_vals r1 h r)
  | [], _ :: _, _, _, h, _, _, _ => by cases h
  | _ :: _, [], _, _, h, _, _, _ => by cases h
theorem pairs_rp {K : PySem.W.Frag} {G H : Hp} (e : Ex G H) : ∀ {vs : List V} {ds : List D} {m : List (Key × D)}, RpL K true G vs ds → pairsD ds = some m → ∃ (ps : List Addr) (kvs : List (Key × V)), vs = ps.map V.ref ∧ Paired (fun p kv => SqT K H p [kV kv.1, kv.2]) ps kvs ∧ kvs.map (·.1) = m.map (·.1) ∧ RpL K true G (kvs.map (·.2)) (m.map (·.2))
  | _, _, m, .nil, h => by cases h; exact ⟨[], [], rfl, .nil, rfl, .nil⟩
  | _, d :: ds, m, .cons h r, q => by
    unfold pairsD at q
    split at q
    · rename_i p m' q1 q2
      cases q
      obtain ⟨ps, kvs, rfl, h2, h3, h4⟩ := pairs_rp e r q2
      unfold pairD at q1
      split at q1
      · rename_i k v
        obtain ⟨kk, q3, e3⟩ := Option.map_eq_some_iff.mp q1
        subst e3
        obtain ⟨b, ys, rfl, s1, r3⟩ := h.tup_inv
        have s1 : G b = some (.tup ys) := s1
        cases r3 with
        | cons r4 r5 =>
          cases r5 with
          | cons r5 r6 =>
            cases r6
            rw [keyD_v r4 q3] at s1
            exact ⟨b :: ps, (kk, _) :: kvs, rfl, .cons (.inl (.inl (e _ _ s1))) h2, by rw [List.map_cons, List.map_cons, h3], .cons r5 h4⟩
      · cases q1
    · cases q
theorem snd_dictP {K : PySem.W.Frag} : SndN K true (rDictP K) gDictP := fun G H xs ds d e h q Q k => by
  unfold gDictP at q
  split at q
  · rename_i es
    obtain ⟨m, q1, rfl⟩ := Option.map_eq_some_iff.mp q
    cases h with
    | cons h1 h2 =>
      cases h2
      obtain ⟨a, ys, rfl, s1, r1⟩ := h1.lst_inv
      have s1 : G a = some (.lst ys) := s1
      obtain ⟨ps, kvs, rfl, p1, p2, p3⟩ := pairs_rp e r1 q1
      refine ⟨a, ps, kvs, rfl, .inl (.inl (e _ _ s1)), p1, fun p hp => ?_⟩
      obtain ⟨m1, m2⟩ := merge_rp (kvs' := []) (kvs := []) p2 p3 rfl .nil
      refine k _ _ (Ex.new hp) (.dic_mk (kvs' := mergeK [] kvs) (kvs := mergeD [] m) (by show grow _ _ _ _ = _; rw [grow_none hp, upd_same]) m1 ?_) fun _ hf => by cases hf
      refine m2.mono fun b o hb => ?_
      unfold grow
      rw [e _ _ hb]
      exact hb
  · cases q
section
variable {X : Cx} {cf : Cf} {W : WX} {c : Cls}
theorem se_dictP {e : Expr} {tA : TA} {fA : M (List D)} {p pos : Pos} (hK : cf.K = X.K) (hc : X.calm = true) (hm : X.mg "dict" = none) (ha : SA X cf W c [e] tA fA) (hg : Gl X "dict" := by rfl) (he : starEach [e] X.env = (false, eval e X.env) :: starEach [] X.env := by rfl) :
    SE X cf W c true (.Call (.Name "dict" p) [e] [] pos) (tCB (rDictP cf.K) tA) (eN gDictP fA) := by
  rw [hK]
  exact se_ct (call_dictP hc) (n := true) (by rw [hK]; exact snd_dictP) hg hm (by decide +kernel) ha (by decide) (by decide) he rfl
end
end MV
namespace Ov
open PySem MV
def T__law_common_l1 : M Bool := (tB (e2 gGt (eV 1) (eC (.int 0))))
def B__law_common_l2 : M Fl := (sPar 0 1 (aCons (eV 1) (aCons (e2 gMod (eV 0) (eV 1)) aNil)))
def B__law_common : M Fl := (sSeq (sWhile T__law_common_l1 B__law_common_l2 WFUEL)
  (sRet (eS (eV 0))))
def F__law_common : List D → FR := runF 2 B__law_common
def B__law_renamed_v3 : M Fl := (sSeq (sSetW 1 (eN gList1 (aCons (eC (.str (Str.ofString "abcdefghijklmnopqrstuvwxyz"))) aNil)))
  (sRet (eN gDictP (aCons (eLc [2] (iS (eC (.str (Str.ofString "abcdefghijklmnopqrstuvwxyz")))) (tgN 2) tTrue (eN gTupD (aCons (eS (eV 2)) (aCons (ePopW 1 (eCallW F__law_take 0 (aCons (eLenW 1) aNil))) aNil)))) aNil))))
def F__law_renamed_v3 : List D → FR := runF 3 B__law_renamed_v3
def B__law_right_v33_l1 : M Fl := (sIf (tAnd2 (tB (e2 gLe (e2 gAdd (eV 5) (eV 10)) (eV 4))) (tB (e2 gNotIn (eCall F__law_common (aCons (eV 5) (aCons (eV 10) aNil))) (eV 3)))) (sRet (eC (.bl false))) sSkip)
def B__law_right_v33_l2 : M Fl := (sFor (iL (eV 3)) (tgN 10) B__law_right_v33_l1)
def B__law_right_v33_l3 : M Fl := (sSeq (sSet 11 (eCall F_lies_at (aCons (eV 1) (aCons (eSl (eV 1) oNone (oSome (eV 7))) aNil))))
  (sSeq (sIf (tOr2 (tB (e2 gNe (e2 gIx (eV 11) (eC (.int 0))) (eC (.int 0)))) (tB (e2 gNe (e2 gIx (eV 11) (e1 gNeg (eC (.int 1)))) (e2 gSub (eV 4) (eV 7))))) (sRet (eC (.bl false))) sSkip)
  (sIf (tB (e2 gNotIn (e2 gSub (eV 7) (eC (.int 1))) (eCall F_borders (aCons (eSl (eV 1) oNone (oSome (e1 gNeg (eC (.int 1))))) aNil)))) (sRet (eC (.bl false))) sSkip)))
def B__law_right_v33 : M Fl := (sSeq (sSet 2 (eCall F_borders (aCons (eV 1) aNil)))
  (sSeq (sSet 3 (eCall F_periods (aCons (eV 1) aNil)))
  (sSeq (sSet 4 (eN gLen (aCons (eV 1) aNil)))
  (sSeq (sIf (tB (e2 gNe (eV 3) (eLc [7] (iL (e1 gRev (eV 2))) (tgN 7) tTrue (e2 gSub (eV 4) (eV 7))))) (sRet (eC (.bl false))) sSkip)
  (sSeq (sIf (tB (e2 gNe (e2 gAdd (eSl (eV 2) oNone (oSome (eC (.int 1)))) (eSl (eV 3) (oSome (e1 gNeg (eC (.int 1)))) oNone)) (eSl (eN gLst (aCons (eC (.int 0)) (aCons (eV 4) aNil))) oNone (oSome (e2 gMul (eC (.int 2)) (eN gInt1 (aCons (e2 gGt (eV 4) (eC (.int 0))) aNil))))))) (sRet (eC (.bl false))) sSkip)
  (sSeq (sIf (tAnd2 (tB (e2 gGt (eV 4) (eC (.int 0)))) (tAnd2 (tB (e2 gGt (e2 gIx (eV 2) (e1 gNeg (eC (.int 1)))) (eC (.int 0)))) (tB (e2 gNe (eCall F_borders (aCons (eSl (eV 1) oNone (oSome (e2 gIx (eV 2) (e1 gNeg (eC (.int 1)))))) aNil)) (eSl (eV 2) oNone (oSome (e1 gNeg (eC (.int 1))))))))) (sRet (eC (.bl false))) sSkip)
  (sSeq (sFor (iL (eV 3)) (tgN 5) B__law_right_v33_l2)
  (sSeq (sSet 6 (eCallW F__law_renamed_v3 0 aNil))
  (sSeq (sIf (tOr2 (tB (e2 gNe (eCall F_borders (aCons (e1 gRev (eV 1)) aNil)) (eV 2))) (tB (e2 gNe (eCall F_periods (aCons (eLc [13] (iL (eV 1)) (tgN 13) tTrue (e2 gDIx (eV 6) (eV 13))) aNil)) (eV 3)))) (sRet (eC (.bl false))) sSkip)
  (sSeq (sFor (iL (eSl (eV 2) (oSome (eC (.int 1))) oNone)) (tgN 7) B__law_right_v33_l3)
  (sSeq (sIf (tB (e2 gEq (eV 4) (eC (.int 0)))) (sRet (eC (.bl true))) sSkip)
  (sSeq (sSet 8 (eLc [12] (iL (eCall F_lies_at (aCons (e2 gAdd (eV 1) (eV 1)) (aCons (eV 1) aNil)))) (tgN 12) (tB (e2 gLt (eV 12) (eV 4))) (eV 12)))
  (sSeq (sSet 9 (eN gMin1 (aCons (eLc [5] (iL (eV 3)) (tgN 5) (tB (e2 gEq (e2 gMod (eV 4) (eV 5)) (eC (.int 0)))) (eV 5)) aNil)))
  (sRet (eAndV (e2 gEq (eCall F_lies_at (aCons (eV 1) (aCons (eV 1) aNil))) (eN gLst (aCons (eC (.int 0)) aNil))) (e2 gEq (eV 8) (eN gLR3 (aCons (eC (.int 0)) (aCons (eV 4) (aCons (eV 9) aNil))))))))))))))))))))
def F__law_right_v33 : List D → FR := runF 14 B__law_right_v33
def B_law_k04_l1 : M Fl := (sSeq (sSetW 2 (eCall F__law_hand (aCons (eV 1) aNil)))
  (sIf (tNot1 (tB (eCallW F__law_right_v33 2 (aCons (eSl (eCallW F__law_text 2 (aCons (eCallW F__law_letters 2 aNil) aNil)) oNone (oSome (eC (.int 100)))) aNil)))) (sRet (eC (.bl false))) sSkip))
def B_law_k04 : M Fl := (sSeq (sFor (iL (e2 gAdd (eN gLst (aCons (e2 gPow (eC (.int 10)) (eC (.int 18))) aNil)) (eSlQ 0 oNone (oSome (eC (.int 8)))))) (tgN 1) B_law_k04_l1)
  (sRet (eC (.bl true))))
def F_law_k04 : List D → FR := runF 3 B_law_k04
end Ov
namespace Ov
open PySem (Str PyData)
open MV
theorem common_val {p q : Nat} (hq : q < 1000) : F__law_common [.int (p : Int), .int (q : Int)] = .ok (.int ((Nat.gcd p q : Nat) : Int)) (.int ((Nat.gcd p q : Nat) : Int)) := by
  obtain ⟨e', h1, rfl⟩ := while_inv (t := T__law_common_l1) (b := B__law_common_l2)
    (fun e => ∃ a b : Nat, e = [some (.int (a : Int)), some (.int (b : Int))] ∧ Nat.gcd a b = Nat.gcd p q ∧ b < 1000)
    (fun e : PEnv => match e[1]? with | some (some (D.int s)) => s.toNat | _ => 0)
    (fun e => e = [some (.int ((Nat.gcd p q : Nat) : Int)), some (.int 0)])
    (fun e he => by
      obtain ⟨a, b, rfl, hg, hb⟩ := he
      by_cases b0 : b = 0
      · subst b0
        refine ⟨false, [some (.int (a : Int)), some (.int ((0 : Nat) : Int))], by simp [T__law_common_l1], ?_⟩
        rw [if_neg (by decide)]
        rw [Nat.gcd_zero_right] at hg
        rw [hg]; rfl
      · have bp : 0 < b := by omega
        have bp' : (0 : Int) < (b : Int) := by omega
        refine ⟨true, [some (.int (a : Int)), some (.int (b : Int))], by simp [T__law_common_l1, bp], ?_⟩
        rw [if_pos rfl]
        have dv : L2.CDiv (a : Int) (b : Int) := ⟨by omega, by omega⟩
        have me : (a : Int) % (b : Int) = ((a % b : Nat) : Int) := by rw [Int.natCast_emod]
        refine ⟨.nx, [some (.int (b : Int)), some (.int ((a % b : Nat) : Int))], ?_, .inl rfl, ⟨b, a % b, rfl, ?_, by have := Nat.mod_lt a bp; omega⟩, ?_⟩
        · generalize ((a % b : Nat) : Int) = m at *
          have ag : (aCons (eV 1) (aCons (e2 gMod (eV 0) (eV 1)) aNil)) [some (.int (a : Int)), some (.int (b : Int))] = .ok [.int (b : Int), .int m] [some (.int (a : Int)), some (.int (b : Int))] := by
            simp [dv, me, b0, bp]
          show sPar 0 1 _ _ = _
          unfold sPar
          rw [bnd_of_ok ag]
          rfl
        · rw [Nat.gcd_comm b, ← Nat.gcd_rec, Nat.gcd_comm, hg]
        · show ((a % b : Nat) : Int).toNat < ((b : Nat) : Int).toNat
          have := Nat.mod_lt a bp
          omega)
    WFUEL [some (.int (p : Int)), some (.int (q : Int))] ⟨p, q, rfl, rfl, hq⟩ (by
      show ((q : Nat) : Int).toNat < WFUEL
      have : 1000 ≤ WFUEL := by decide
      omega)
  simp only [F__law_common, r_runF, B__law_common]
  generalize WFUEL = WF at *
  generalize Nat.gcd p q = G at *
  simp [h1]
theorem erase_mapG {α β : Type} (f : α → β) : ∀ (l : List α) (i : Nat), (l.map f).eraseIdx i = (l.eraseIdx i).map f
  | [], _ => rfl
  | _ :: _, 0 => rfl
  | x :: l, i + 1 => congrArg (f x :: ·) (erase_mapG f l i)
theorem perm_erase {α : Type} : ∀ (l : List α) (i : Nat) (h : i < l.length), (l[i] :: l.eraseIdx i).Perm l
  | _ :: _, 0, _ => List.Perm.refl _
  | x :: l, i + 1, h => by
    have ih := perm_erase l i (by simpa using h)
    show (l[i]'(by simpa using h) :: x :: l.eraseIdx i).Perm (x :: l)
    exact (List.Perm.swap x _ _).trans (List.Perm.cons x ih)
def abcL : List Str := (List.range 26).map fun i => (⟨#[97 + i]⟩ : Str)
theorem abc_cps : (Str.ofString "abcdefghijklmnopqrstuvwxyz").cps.toList = (List.range 26).map fun i => 97 + i := by decide +kernel
theorem abc_ch : chD (Str.ofString "abcdefghijklmnopqrstuvwxyz") = abcL.map D.str := by
  unfold chD abcL
  rw [abc_cps, List.map_map, List.map_map]
  rfl
theorem abcL_sg : ∀ x, x ∈ abcL ↔ Sg x := fun x => by
  unfold abcL
  rw [List.mem_map]
  constructor
  · rintro ⟨i, hi, rfl⟩
    have := List.mem_range.mp hi
    exact ⟨97 + i, rfl, by omega, by omega⟩
  · rintro ⟨c, rfl, c1, c2⟩
    exact ⟨c - 97, List.mem_range.mpr (by omega), by rw [show 97 + (c - 97) = c by omega]⟩
theorem abcL_nodup : abcL.Nodup := by unfold abcL; decide +kernel
def prS (p : Str × Str) : D := .tup [.str p.1, .str p.2]
theorem pairs_prS : ∀ L : List (Str × Str), pairsD (L.map prS) = some (L.map fun p => ((Sum.inr p.1 : L2.Key), D.str p.2))
  | [] => rfl
  | p :: L => by rw [List.map_cons, pairsD, pairs_prS L]; rfl
theorem merge_new : ∀ (L K : List (Str × Str)), ((K ++ L).map (·.1)).Nodup → mergeD (K.map fun p => ((Sum.inr p.1 : L2.Key), D.str p.2)) (L.map fun p => ((Sum.inr p.1 : L2.Key), D.str p.2)) = (K ++ L).map fun p => ((Sum.inr p.1 : L2.Key), D.str p.2)
  | [], K, _ => by rw [List.append_nil]; rfl
  | p :: L, K, h => by
    have no : ((K.map fun p => ((Sum.inr p.1 : L2.Key), D.str p.2)).any fun kv => decide (kv.1 = Sum.inr p.1)) = false := by
      rw [List.any_eq_false]
      intro kv hkv
      obtain ⟨q, hq, rfl⟩ := List.mem_map.mp hkv
      rw [decide_eq_true_iff]
      intro e
      have e : q.1 = p.1 := Sum.inr.inj e
      rw [List.map_append, List.map_cons] at h
      have := (List.pairwise_append.mp h).2.2 q.1 (List.mem_map.mpr ⟨q, hq, rfl⟩) p.1 List.mem_cons_self
      exact this e
    have ih := merge_new L (K ++ [p]) (by rw [List.append_assoc]; exact h)
    rw [List.append_assoc] at ih
    show mergeD (dput (K.map fun p => ((Sum.inr p.1 : L2.Key), D.str p.2)) (Sum.inr p.1) (.str p.2)) (L.map fun p => ((Sum.inr p.1 : L2.Key), D.str p.2)) = _
    have : dput (K.map fun p => ((Sum.inr p.1 : L2.Key), D.str p.2)) (Sum.inr p.1) (.str p.2) = (K ++ [p]).map fun p => ((Sum.inr p.1 : L2.Key), D.str p.2) := by
      unfold dput
      rw [no, if_neg (by decide), List.map_append]; rfl
    rw [this]
    exact ih
def rhoP (L : List (Str × Str)) (x : Str) : Str := ((L.find? fun p => decide (p.1 = x)).map (·.2)).getD x
theorem dval_rhoP (L : List (Str × Str)) (x : Str) (h : x ∈ L.map (·.1)) : dval (L.map fun p => ((Sum.inr p.1 : L2.Key), D.str p.2)) (Sum.inr x) = some (.str (rhoP L x)) ∧ ∃ p ∈ L, p.1 = x ∧ rhoP L x = p.2 := by
  unfold dval rhoP
  rw [List.find?_map]
  have e : ((fun kv : L2.Key × D => decide (kv.1 = Sum.inr x)) ∘ fun p : Str × Str => ((Sum.inr p.1 : L2.Key), D.str p.2)) = fun p : Str × Str => decide (p.1 = x) := by
    funext p
    show decide ((Sum.inr p.1 : L2.Key) = Sum.inr x) = decide (p.1 = x)
    rw [decide_eq_decide]
    exact ⟨fun h => Sum.inr.inj h, fun h => by rw [h]⟩
  rw [e]
  cases q : L.find? fun p => decide (p.1 = x) with
  | none =>
    obtain ⟨p, hp, rfl⟩ := List.mem_map.mp h
    have := List.find?_eq_none.mp q p hp
    simp at this
  | some p =>
    have h1 := List.find?_some (p := fun p : Str × Str => decide (p.1 = x)) q
    exact ⟨rfl, p, List.mem_of_find?_eq_some q, of_decide_eq_true h1, rfl⟩
theorem rhoP_inj {L : List (Str × Str)} (h1 : (L.map (·.2)).Nodup) {x y : Str} (hx : x ∈ L.map (·.1)) (hy : y ∈ L.map (·.1)) (h : rhoP L x = rhoP L y) : x = y := by
  obtain ⟨p, p1, p2, p3⟩ := (dval_rhoP L x hx).2
  obtain ⟨q, q1, q2, q3⟩ := (dval_rhoP L y hy).2
  obtain ⟨i, hi, e1⟩ := List.getElem_of_mem p1
  obtain ⟨j, hj, e2⟩ := List.getElem_of_mem q1
  have pw := List.pairwise_iff_getElem.mp h1
  have hi' : i < (L.map (·.2)).length := by rw [List.length_map]; exact hi
  have hj' : j < (L.map (·.2)).length := by rw [List.length_map]; exact hj
  have e : p.2 = q.2 := by rw [← p3, ← q3, h]
  rcases Nat.lt_trichotomy i j with c | c | c
  · have := pw i j hi' hj' c
    rw [List.getElem_map, List.getElem_map, e1, e2] at this
    exact absurd e this
  · subst c
    rw [e1] at e2
    rw [← p2, ← q2, e2]
  · have := pw j i hj' hi' c
    rw [List.getElem_map, List.getElem_map, e1, e2] at this
    exact absurd e.symm this
theorem renamed3_val {h : List Int} (hh : Hd h) : ∃ (L : List (Str × Str)) (h' : List Int), F__law_renamed_v3 [dI h] = .ok (.dic (L.map fun p => ((Sum.inr p.1 : L2.Key), D.str p.2))) (dI h') ∧ Hd h' ∧ L.map (·.1) = abcL ∧ (L.map (·.2)).Perm abcL := by
  have al : (abcL).length = 26 := by unfold abcL; rw [List.length_map, List.length_range]
  obtain ⟨acc, e', g1, L, left, h', rfl, rfl, q1, q2, q3⟩ := lc_inv (is := [2]) (tg := tgN 2) (t := tTrue) (fe := eN gTupD (aCons (eS (eV 2)) (aCons (ePopW 1 (eCallW F__law_take 0 (aCons (eLenW 1) aNil))) aNil))) (ds := abcL.map D.str)
    (fun i acc e => ∃ (L : List (Str × Str)) (left : List Str) (h' : List Int), acc = L.map prS ∧ e = [some (dI h'), some (dT left), none] ∧ Hd h' ∧ L.map (·.1) = abcL.take i ∧ (L.map (·.2) ++ left).Perm abcL)
    [] [some (dI h), some (dT abcL), none] ⟨[], abcL, h, rfl, rfl, hh, rfl, List.Perm.refl _⟩ (by rw [List.length_map, al]; show 0 + 26 ≤ 100000; omega)
    (fun i d acc e hd hi => by
      obtain ⟨L, left, h1, rfl, rfl, q1, q2, q3⟩ := hi
      rw [List.getElem?_map] at hd
      obtain ⟨x, hx, rfl⟩ := Option.map_eq_some_iff.mp hd
      have hi := (List.getElem?_eq_some_iff.mp hx).1
      have ll : L.length = i := by
        have := congrArg List.length q2
        rw [List.length_map, List.length_take] at this
        omega
      have pl := q3.length_eq
      rw [List.length_append, List.length_map, al] at pl
      have lp : 0 < left.length := by omega
      obtain ⟨r, h2, t1, t2, t3⟩ := take_ok (m := left.length) q1 (by omega) (by omega)
      have t2 : r < left.length := by omega
      have ix : L2.ixN (left.map D.str).length (r : Int) = some r := ixN_nat (by rw [List.length_map]; exact t2)
      have ge : (left.map D.str)[r]? = some (.str left[r]) := by rw [List.getElem?_map, List.getElem?_eq_getElem t2]; rfl
      have er : (left.map D.str).eraseIdx r = (left.eraseIdx r).map D.str := erase_mapG D.str left r
      have L1 : (left.map D.str).length ≤ LIM := by rw [List.length_map]; show _ ≤ 100000; omega
      have z2 : (2 : Nat) ≤ PySem.sizeLine := by decide
      refine ⟨_, _, true, rfl, rfl, fun _ => ⟨prS (x, left[r]), [some (dI h2), some (dT (left.eraseIdx r)), some (.str x)], ?_, L ++ [(x, left[r])], left.eraseIdx r, h2, by rw [List.map_append]; rfl, rfl, t3, ?_, ?_⟩, fun h => by cases h⟩
      · unfold dT at *
        have t1 : F__law_take [dI h1, .int ((left.map D.str).length : Int)] = .ok (.int (r : Int)) (dI h2) := by rw [List.length_map]; exact t1
        rw [← er]
        generalize left.map D.str = LL at *
        simp [L1, t1, ix, ge, z2, List.all_map, prS]
      · rw [List.map_append, q2, List.take_succ, hx]; rfl
      · rw [List.map_append, List.append_assoc]
        refine (List.Perm.append_left _ ?_).trans q3
        exact perm_erase left r t2)
  rw [List.length_map, al] at q2
  have q2 : L.map (·.1) = abcL := by rw [q2]; exact List.take_of_length_le (by omega)
  have ll : L.length = 26 := by rw [← al, ← q2, List.length_map]
  have pl := q3.length_eq
  rw [List.length_append, List.length_map, al] at pl
  have l0 : left = [] := List.length_eq_zero_iff.mp (by omega)
  subst l0
  rw [List.append_nil] at q3
  have mg := merge_new L [] (by rw [List.nil_append, q2]; exact abcL_nodup)
  have dp : gDictP [.lst (L.map prS)] = some (.dic (L.map fun p => ((Sum.inr p.1 : L2.Key), D.str p.2))) := by
    show (pairsD (L.map prS)).map _ = _
    rw [pairs_prS]
    show some (D.dic (mergeD [] _)) = _
    have mg : mergeD [] (L.map fun p => ((Sum.inr p.1 : L2.Key), D.str p.2)) = _ := mg
    rw [mg]; rfl
  refine ⟨L, h', ?_, q1, q2, q3⟩
  have gl : gList1 [.str (Str.ofString "abcdefghijklmnopqrstuvwxyz")] = some (dT abcL) := by
    rw [gList1_s, if_pos (by decide +kernel), abc_ch]
  have as' : asStr (.str (Str.ofString "abcdefghijklmnopqrstuvwxyz")) = some (abcL.map D.str) := by
    have := abc_ch
    unfold chD at this
    rw [← this]; rfl
  simp only [F__law_renamed_v3, r_runF, B__law_renamed_v3]
  have fl := strs_all abcL
  unfold dT at *
  generalize (L.map fun p => ((Sum.inr p.1 : L2.Key), D.str p.2)) = DD at *
  generalize L.map prS = PP at *
  generalize hA : abcL.map D.str = AA at *
  generalize Str.ofString "abcdefghijklmnopqrstuvwxyz" = ABC at *
  simp [gl, as', g1, dp]
  intro x hx hs
  rw [fl x hx] at hs; cases hs
end Ov
namespace Ov
open PySem (Str PyData)
open MV
section
variable {t : List Str}
theorem pers_len' : (pers t).length ≤ t.length := pers_len t
theorem bord_len' : (bord t).length ≤ t.length := by
  unfold bord
  exact Nat.le_trans (List.length_filter_le _ _) (by rw [List.length_range]; exact Nat.le_refl _)
theorem gNotIn_nat (x : Nat) (l : List Nat) : gNotIn (.int (x : Int)) (dN l) = some (.bl (!decide (x ∈ l))) := by
  rw [gNotIn_n (x : Int) l]
  have : (l.any fun k : Nat => decide ((k : Int) = (x : Int))) = decide (x ∈ l) := by
    rw [Bool.eq_iff_iff, List.any_eq_true, decide_eq_true_iff]
    constructor
    · rintro ⟨k, hk, h⟩
      have h : (k : Int) = (x : Int) := of_decide_eq_true h
      have : k = x := by omega
      rw [← this]; exact hk
    · intro h; exact ⟨x, h, decide_eq_true rfl⟩
  rw [this]
theorem common_row {p : Nat} (hp : p ∈ pers t) (hl : t.length ≤ 900) : ∀ (l : List Nat), (∀ q ∈ l, q ∈ pers t) → ∀ {h : List Int} {x5 x6 x7 x8 x9 x10 x11 x12 x13 : Option D}, ∃ y10, sForL (tgN 10) B__law_right_v33_l1 (l.map fun k : Nat => D.int (k : Int)) [some (dI h), some (dT t), some (dN (bord t)), some (dN (pers t)), some (.int (t.length : Int)), some (.int (p : Int)), x6, x7, x8, x9, x10, x11, x12, x13] = .ok .nx [some (dI h), some (dT t), some (dN (bord t)), some (dN (pers t)), some (.int (t.length : Int)), some (.int (p : Int)), x6, x7, x8, x9, y10, x11, x12, x13]
  | [], _, h, x5, x6, x7, x8, x9, x10, x11, x12, x13 => ⟨x10, rfl⟩
  | q :: l, hq, h, x5, x6, x7, x8, x9, x10, x11, x12, x13 => by
    have qm := hq q List.mem_cons_self
    obtain ⟨y10, ih⟩ := common_row hp hl l (fun z hz => hq z (List.mem_cons_of_mem _ hz)) (h := h) (x6 := x6) (x7 := x7) (x8 := x8) (x9 := x9) (x10 := some (.int (q : Int))) (x11 := x11) (x12 := x12) (x13 := x13) (x5 := x5)
    refine ⟨y10, ?_⟩
    have q2 := (mem_pers.mp qm).2.1
    have row : B__law_right_v33_l1 [some (dI h), some (dT t), some (dN (bord t)), some (dN (pers t)), some (.int (t.length : Int)), some (.int (p : Int)), x6, x7, x8, x9, some (.int (q : Int)), x11, x12, x13] = .ok .nx [some (dI h), some (dT t), some (dN (bord t)), some (dN (pers t)), some (.int (t.length : Int)), some (.int (p : Int)), x6, x7, x8, x9, some (.int (q : Int)), x11, x12, x13] := by
      by_cases c : p + q ≤ t.length
      · have g := per_gcd _ p q (Nat.le_refl _) hp qm c
        have cv := common_val (p := p) (q := q) (by omega)
        have ni := gNotIn_nat (Nat.gcd p q) (pers t)
        rw [decide_eq_true g] at ni
        have c' : (p : Int) + (q : Int) ≤ (t.length : Int) := by omega
        generalize dN (pers t) = PP at *
        generalize dN (bord t) = BB at *
        generalize Nat.gcd p q = G at *
        simp [B__law_right_v33_l1, c, c', cv, ni]
      · have c' : ¬ (p : Int) + (q : Int) ≤ (t.length : Int) := by omega
        generalize dN (pers t) = PP at *
        generalize dN (bord t) = BB at *
        simp [B__law_right_v33_l1, c, c']
    rw [List.map_cons, for_step rfl row]
    exact ih
theorem common_all (hl : t.length ≤ 900) : ∀ (l : List Nat), (∀ q ∈ l, q ∈ pers t) → ∀ {h : List Int} {x5 x6 x7 x8 x9 x10 x11 x12 x13 : Option D}, ∃ y5 y10, sForL (tgN 5) B__law_right_v33_l2 (l.map fun k : Nat => D.int (k : Int)) [some (dI h), some (dT t), some (dN (bord t)), some (dN (pers t)), some (.int (t.length : Int)), x5, x6, x7, x8, x9, x10, x11, x12, x13] = .ok .nx [some (dI h), some (dT t), some (dN (bord t)), some (dN (pers t)), some (.int (t.length : Int)), y5, x6, x7, x8, x9, y10, x11, x12, x13]
  | [], _, h, x5, x6, x7, x8, x9, x10, x11, x12, x13 => ⟨x5, x10, rfl⟩
  | p :: l, hq, h, x5, x6, x7, x8, x9, x10, x11, x12, x13 => by
    obtain ⟨z10, r⟩ := common_row (hq p List.mem_cons_self) hl (pers t) (fun _ h => h) (h := h) (x5 := x5) (x6 := x6) (x7 := x7) (x8 := x8) (x9 := x9) (x10 := x10) (x11 := x11) (x12 := x12) (x13 := x13)
    obtain ⟨y5, y10, ih⟩ := common_all hl l (fun z hz => hq z (List.mem_cons_of_mem _ hz)) (h := h) (x5 := some (.int (p : Int))) (x6 := x6) (x7 := x7) (x8 := x8) (x9 := x9) (x10 := z10) (x11 := x11) (x12 := x12) (x13 := x13)
    refine ⟨y5, y10, ?_⟩
    have row : B__law_right_v33_l2 [some (dI h), some (dT t), some (dN (bord t)), some (dN (pers t)), some (.int (t.length : Int)), some (.int (p : Int)), x6, x7, x8, x9, x10, x11, x12, x13] = .ok .nx [some (dI h), some (dT t), some (dN (bord t)), some (dN (pers t)), some (.int (t.length : Int)), some (.int (p : Int)), x6, x7, x8, x9, z10, x11, x12, x13] := by
      unfold dN at r ⊢
      generalize (pers t).map (fun k : Nat => D.int (k : Int)) = PP at *
      simp [B__law_right_v33_l2, r]
    rw [List.map_cons, for_step rfl row]
    exact ih
theorem border_row {b : Nat} (ht : Tx t) (hb : b ∈ bord t) (b0 : 0 < b) (hl : t.length ≤ 900) {h : List Int} {x5 x6 x7 x8 x9 x10 x11 x12 x13 : Option D} : B__law_right_v33_l3 [some (dI h), some (dT t), some (dN (bord t)), some (dN (pers t)), some (.int (t.length : Int)), x5, x6, some (.int (b : Int)), x8, x9, x10, x11, x12, x13] = .ok .nx [some (dI h), some (dT t), some (dN (bord t)), some (dN (pers t)), some (.int (t.length : Int)), x5, x6, some (.int (b : Int)), x8, x9, x10, some (dN (lies t (t.take b))), x12, x13] := by
  have ib := (bord_eq b).mp hb
  have bl := ib.1
  have tl : (t.take b).length = b := by rw [List.length_take]; omega
  have ne : t.take b ≠ [] := fun z => by rw [z] at tl; simp at tl; omega
  have lv := lies_at_val ht (ht.take b) ne (by omega) (by omega)
  have ct : cutA t none (some (b : Int)) = t.take b := cutA_to t b
  have f0 := lies_own_first (t := t) (b := b) (by omega)
  have fl := lies_own_last ib
  have bd := bord_down ib b0
  have tx : Tx t.dropLast := by rw [List.dropLast_eq_take]; exact ht.take _
  have bv := borders_val tx (by rw [List.length_dropLast]; omega)
  have ni := gNotIn_nat (b - 1) (bord t.dropLast)
  rw [decide_eq_true bd, show ((b - 1 : Nat) : Int) = (b : Int) - 1 by omega] at ni
  have ci : cutA t none (some (-1)) = t.dropLast := cutA_init t
  have i0 : L2.atI ((lies t (t.take b)).map fun k : Nat => D.int (k : Int)) 0 = some (.int 0) := by
    rw [show (0 : Int) = ((0 : Nat) : Int) from rfl, atI_eq, List.getElem?_map, f0]; rfl
  have il : L2.atI ((lies t (t.take b)).map fun k : Nat => D.int (k : Int)) (-1) = some (.int ((t.length : Int) - (b : Int))) := by
    rw [atI_neg1, List.getLast?_map, fl]
    show some (D.int ((t.length - b : Nat) : Int)) = _
    rw [show ((t.length - b : Nat) : Int) = (t.length : Int) - (b : Int) by omega]
  have n0 : gNe (.int ((t.length : Int) - (b : Int))) (.int ((t.length : Int) - (b : Int))) = some (.bl false) := by simp
  generalize dN (bord t.dropLast) = B2 at *
  generalize dN (bord t) = BB at *
  generalize dN (pers t) = PP at *
  unfold dN at *
  generalize (lies t (t.take b)).map (fun k : Nat => D.int (k : Int)) = LL at *
  generalize t.dropLast = u at *
  generalize t.take b = v at *
  generalize hnb : (t.length : Int) - (b : Int) = nb at *
  simp [B__law_right_v33_l3, cutA_map, ct, lv, i0, il, n0, hnb, ci, bv, ni]
end
end Ov
namespace Ov
open PySem (Str PyData)
open MV
section
variable {t : List Str}
theorem border_all (ht : Tx t) (hl : t.length ≤ 900) : ∀ (l : List Nat), (∀ b ∈ l, b ∈ bord t ∧ 0 < b) → ∀ {h : List Int} {x5 x6 x7 x8 x9 x10 x11 x12 x13 : Option D}, ∃ y7 y11, sForL (tgN 7) B__law_right_v33_l3 (l.map fun k : Nat => D.int (k : Int)) [some (dI h), some (dT t), some (dN (bord t)), some (dN (pers t)), some (.int (t.length : Int)), x5, x6, x7, x8, x9, x10, x11, x12, x13] = .ok .nx [some (dI h), some (dT t), some (dN (bord t)), some (dN (pers t)), some (.int (t.length : Int)), x5, x6, y7, x8, x9, x10, y11, x12, x13]
  | [], _, h, x5, x6, x7, x8, x9, x10, x11, x12, x13 => ⟨x7, x11, rfl⟩
  | b :: l, hq, h, x5, x6, x7, x8, x9, x10, x11, x12, x13 => by
    have hb := hq b List.mem_cons_self
    obtain ⟨y7, y11, ih⟩ := border_all ht hl l (fun z hz => hq z (List.mem_cons_of_mem _ hz)) (h := h) (x5 := x5) (x6 := x6) (x7 := some (.int (b : Int))) (x8 := x8) (x9 := x9) (x10 := x10) (x11 := some (dN (lies t (t.take b)))) (x12 := x12) (x13 := x13)
    refine ⟨y7, y11, ?_⟩
    rw [List.map_cons, for_step rfl (border_row ht hb.1 hb.2 hl (h := h) (x5 := x5) (x6 := x6) (x7 := x7) (x8 := x8) (x9 := x9) (x10 := x10) (x11 := x11) (x12 := x12) (x13 := x13))]
    exact ih
theorem names_lc (ht : Tx t) (hl : t.length ≤ 900) {L : List (Str × Str)} (q2 : L.map (·.1) = abcL) {h : List Int} {x5 x6 x7 x8 x9 x10 x11 x12 x13 : Option D} : lcGo [13] (tgN 13) tTrue (e2 gDIx (eV 6) (eV 13)) (t.map D.str) [] [some (dI h), some (dT t), some (dN (bord t)), some (dN (pers t)), some (.int (t.length : Int)), x5, some (.dic (L.map fun p => ((Sum.inr p.1 : L2.Key), D.str p.2))), x7, x8, x9, x10, x11, x12, none] = .ok ((t.map (rhoP L)).map D.str) [some (dI h), some (dT t), some (dN (bord t)), some (dN (pers t)), some (.int (t.length : Int)), x5, some (.dic (L.map fun p => ((Sum.inr p.1 : L2.Key), D.str p.2))), x7, x8, x9, x10, x11, x12, none] := by
  have lc := lc_pure (is := [13]) (tg := tgN 13) (t := tTrue) (fe := e2 gDIx (eV 6) (eV 13)) (e := [some (dI h), some (dT t), some (dN (bord t)), some (dN (pers t)), some (.int (t.length : Int)), x5, some (.dic (L.map fun p => ((Sum.inr p.1 : L2.Key), D.str p.2))), x7, x8, x9, x10, x11, x12, none]) (φ := D.str) (p := fun _ => true) (g := fun x => D.str (rhoP L x)) t [] (by show 0 + _ ≤ 100000; omega)
    (fun x hx => ⟨_, [some (dI h), some (dT t), some (dN (bord t)), some (dN (pers t)), some (.int (t.length : Int)), x5, some (.dic (L.map fun p => ((Sum.inr p.1 : L2.Key), D.str p.2))), x7, x8, x9, x10, x11, x12, some (.str x)], rfl, rfl, fun _ => ⟨[some (dI h), some (dT t), some (dN (bord t)), some (dN (pers t)), some (.int (t.length : Int)), x5, some (.dic (L.map fun p => ((Sum.inr p.1 : L2.Key), D.str p.2))), x7, x8, x9, x10, x11, x12, some (.str x)], by
      have dv := (dval_rhoP L x (by rw [q2]; exact (abcL_sg x).mpr (ht x hx))).1
      have gd : gDIx (.dic (L.map fun p => ((Sum.inr p.1 : L2.Key), D.str p.2))) (.str x) = some (.str (rhoP L x)) := by
        show (match (keyD (.str x)).map (fun k => dval (L.map fun p => ((Sum.inr p.1 : L2.Key), D.str p.2)) k) with | some (some d) => some d | _ => none) = _
        show (match some (dval (L.map fun p => ((Sum.inr p.1 : L2.Key), D.str p.2)) (Sum.inr x)) with | some (some d) => some d | _ => none) = _
        rw [dv]
      generalize (L.map fun p => ((Sum.inr p.1 : L2.Key), D.str p.2)) = DD at *
      generalize dN (bord t) = BB at *
      generalize dN (pers t) = PP at *
      simp [gd], rfl⟩, fun h => by cases h⟩)
  rw [List.filter_eq_self.mpr (fun _ _ => rfl), List.nil_append] at lc
  rw [lc, List.map_map]
  rfl
theorem told_lc (hl : t.length ≤ 900) {h : List Int} {x5 x6 x7 x8 x9 x10 x11 x12 x13 : Option D} : lcGo [7] (tgN 7) tTrue (e2 gSub (eV 4) (eV 7)) ((bord t).reverse.map fun k : Nat => D.int (k : Int)) [] [some (dI h), some (dT t), some (dN (bord t)), some (dN (pers t)), some (.int (t.length : Int)), x5, x6, none, x8, x9, x10, x11, x12, x13] = .ok ((pers t).map fun k : Nat => D.int (k : Int)) [some (dI h), some (dT t), some (dN (bord t)), some (dN (pers t)), some (.int (t.length : Int)), x5, x6, none, x8, x9, x10, x11, x12, x13] := by
  have lc := lc_pure (is := [7]) (tg := tgN 7) (t := tTrue) (fe := e2 gSub (eV 4) (eV 7)) (e := [some (dI h), some (dT t), some (dN (bord t)), some (dN (pers t)), some (.int (t.length : Int)), x5, x6, none, x8, x9, x10, x11, x12, x13]) (φ := fun k : Nat => D.int (k : Int)) (p := fun _ => true) (g := fun k : Nat => D.int ((t.length - k : Nat) : Int)) (bord t).reverse [] (by have := bord_len' (t := t); rw [List.length_reverse]; show 0 + _ ≤ 100000; omega)
    (fun k hk => ⟨_, [some (dI h), some (dT t), some (dN (bord t)), some (dN (pers t)), some (.int (t.length : Int)), x5, x6, some (.int (k : Int)), x8, x9, x10, x11, x12, x13], rfl, rfl, fun _ => ⟨[some (dI h), some (dT t), some (dN (bord t)), some (dN (pers t)), some (.int (t.length : Int)), x5, x6, some (.int (k : Int)), x8, x9, x10, x11, x12, x13], by
      have kb := ((bord_eq k).mp (List.mem_reverse.mp hk)).1
      have e : (t.length : Int) - (k : Int) = ((t.length - k : Nat) : Int) := by omega
      generalize dN (bord t) = BB at *
      generalize dN (pers t) = PP at *
      simp [e], rfl⟩, fun h => by cases h⟩)
  rw [List.filter_eq_self.mpr (fun _ _ => rfl), List.nil_append] at lc
  rw [lc, ← told_eq, List.map_map]
  rfl
theorem twice_lc (hl : t.length ≤ 400) {L : List Nat} (hL : L.length ≤ 1000) {h : List Int} {x5 x6 x7 x8 x9 x10 x11 x12 x13 : Option D} : lcGo [12] (tgN 12) (tB (e2 gLt (eV 12) (eV 4))) (eV 12) (L.map fun k : Nat => D.int (k : Int)) [] [some (dI h), some (dT t), some (dN (bord t)), some (dN (pers t)), some (.int (t.length : Int)), x5, x6, x7, x8, x9, x10, x11, none, x13] = .ok ((L.filter fun p => decide (p < t.length)).map fun k : Nat => D.int (k : Int)) [some (dI h), some (dT t), some (dN (bord t)), some (dN (pers t)), some (.int (t.length : Int)), x5, x6, x7, x8, x9, x10, x11, none, x13] := by
  exact lc_nat (is := [12]) (tg := tgN 12) (t := tB (e2 gLt (eV 12) (eV 4))) (fe := eV 12) (e := [some (dI h), some (dT t), some (dN (bord t)), some (dN (pers t)), some (.int (t.length : Int)), x5, x6, x7, x8, x9, x10, x11, none, x13]) (fun p => decide (p < t.length)) (fun k => .int (k : Int)) L (by show _ ≤ 100000; omega)
    (fun k hk => ⟨_, [some (dI h), some (dT t), some (dN (bord t)), some (dN (pers t)), some (.int (t.length : Int)), x5, x6, x7, x8, x9, x10, x11, some (.int (k : Int)), x13], rfl, by
      generalize dN (bord t) = BB at *
      generalize dN (pers t) = PP at *
      by_cases c : k < t.length
      · have c' : (k : Int) < (t.length : Int) := by omega
        simp [c, c']
      · have c' : ¬ (k : Int) < (t.length : Int) := by omega
        simp [c, c'], fun _ => ⟨_, rfl, rfl⟩, fun _ => rfl⟩)
theorem least_lc (hl : t.length ≤ 400) {h : List Int} {x5 x6 x7 x8 x9 x10 x11 x12 x13 : Option D} : lcGo [5] (tgN 5) (tB (e2 gEq (e2 gMod (eV 4) (eV 5)) (eC (.int 0)))) (eV 5) ((pers t).map fun k : Nat => D.int (k : Int)) [] [some (dI h), some (dT t), some (dN (bord t)), some (dN (pers t)), some (.int (t.length : Int)), none, x6, x7, x8, x9, x10, x11, x12, x13] = .ok (((pers t).filter fun p => decide (t.length % p = 0)).map fun k : Nat => D.int (k : Int)) [some (dI h), some (dT t), some (dN (bord t)), some (dN (pers t)), some (.int (t.length : Int)), none, x6, x7, x8, x9, x10, x11, x12, x13] := by
  exact lc_nat (is := [5]) (tg := tgN 5) (t := tB (e2 gEq (e2 gMod (eV 4) (eV 5)) (eC (.int 0)))) (fe := eV 5) (e := [some (dI h), some (dT t), some (dN (bord t)), some (dN (pers t)), some (.int (t.length : Int)), none, x6, x7, x8, x9, x10, x11, x12, x13]) (fun p => decide (t.length % p = 0)) (fun k => .int (k : Int)) (pers t) (by have := pers_len' (t := t); show _ ≤ 100000; omega)
    (fun k hk => ⟨_, [some (dI h), some (dT t), some (dN (bord t)), some (dN (pers t)), some (.int (t.length : Int)), some (.int (k : Int)), x6, x7, x8, x9, x10, x11, x12, x13], rfl, by
      obtain ⟨k1, k2, _⟩ := mem_pers.mp hk
      have dv : L2.CDiv (t.length : Int) (k : Int) := ⟨by omega, by omega⟩
      have me : (t.length : Int) % (k : Int) = ((t.length % k : Nat) : Int) := by rw [Int.natCast_emod]
      have k0 : ¬ k = 0 := by omega
      have ge : gEq (.int ((t.length % k : Nat) : Int)) (.int 0) = some (.bl (decide (t.length % k = 0))) := by
        show some (D.bl (decide (((t.length % k : Nat) : Int) = 0))) = _
        congr 2
        rw [decide_eq_decide]; omega
      generalize dN (bord t) = BB at *
      generalize dN (pers t) = PP at *
      generalize t.length % k = m at *
      simp [dv, me, k0, ge, k1, -Int.natCast_emod], fun _ => ⟨_, rfl, rfl⟩, fun _ => rfl⟩)
end
end Ov
namespace Ov
open PySem (Str PyData)
open MV
section
variable {t : List Str}
theorem lr3_mul {n d : Nat} (n0 : 0 < n) (d0 : 0 < d) (hd : d ∣ n) (hl : n ≤ 400) : gLR3 [.int 0, .int (n : Int), .int (d : Int)] = some (dN ((List.range (n / d)).map (· * d))) := by
  obtain ⟨q, rfl⟩ := hd
  have q0 : 0 < q := Nat.pos_of_ne_zero fun z => by subst z; simp at n0
  have dl : d ≤ d * q := Nat.le_mul_of_pos_right _ q0
  obtain ⟨a, b⟩ := okR3_small (r := 0) (E := d * q - 1) (m := d) d0 (by omega) (by omega) (by omega)
  have e1 : ((d * q - 1 : Nat) : Int) + 1 = ((d * q : Nat) : Int) := by omega
  rw [e1] at a b
  have a : okR3 0 ((d * q : Nat) : Int) (d : Int) = true := a
  have b : (PySem.Builtin.Range.rangeSize 0 ((d * q : Nat) : Int) (d : Int)).toNat = (d * q - 1 - 0) / d + 1 := b
  have e2 : (d * q - 1 - 0) / d + 1 = q := by
    rw [Nat.sub_zero]
    have : d * q - 1 = d * (q - 1) + (d - 1) := by
      obtain ⟨k, rfl⟩ : ∃ k, q = k + 1 := ⟨q - 1, by omega⟩
      rw [Nat.mul_succ, Nat.add_sub_cancel]; omega
    rw [this, Nat.mul_add_div d0, Nat.div_eq_of_lt (by omega)]
    omega
  rw [gLR3_i, if_pos a, b, e2, Nat.mul_div_cancel_left q d0]
  have := rngC_nat 0 d q
  have : rngC 0 (d : Int) q = _ := this
  rw [this]
  congr 2
  rw [List.map_map, List.map_map]
  refine List.map_congr_left fun i _ => ?_
  show D.int ((0 + i * d : Nat) : Int) = D.int ((i * d : Nat) : Int)
  rw [Nat.zero_add]
theorem right33_ok (ht : Tx t) (hl : t.length ≤ 200) {h : List Int} (hh : Hd h) : ∃ h', Hd h' ∧ F__law_right_v33 [dI h, dT t] = .ok (.bl true) (dI h') := by
  have bv := borders_val ht (by omega)
  have pv := periods_val ht (by omega)
  have z1 : (1 : Nat) ≤ PySem.sizeLine := by decide
  have z2 : (2 : Nat) ≤ PySem.sizeLine := by decide
  have gt : gLen [dT t] = some (.int (t.length : Int)) := by simp
  have k1 : sSet 2 (eCall F_borders (aCons (eV 1) aNil)) [some (dI h), some (dT t), none, none, none, none, none, none, none, none, none, none, none, none] = .ok .nx [some (dI h), some (dT t), some (dN (bord t)), none, none, none, none, none, none, none, none, none, none, none] := by
    generalize dN (bord t) = BB at *
    generalize dT t = T at *
    simp [bv]
  have k2 : sSet 3 (eCall F_periods (aCons (eV 1) aNil)) [some (dI h), some (dT t), some (dN (bord t)), none, none, none, none, none, none, none, none, none, none, none] = .ok .nx [some (dI h), some (dT t), some (dN (bord t)), some (dN (pers t)), none, none, none, none, none, none, none, none, none, none] := by
    generalize dN (bord t) = BB at *
    generalize dN (pers t) = PP at *
    generalize dT t = T at *
    simp [pv]
  have k3 : sSet 4 (eN gLen (aCons (eV 1) aNil)) [some (dI h), some (dT t), some (dN (bord t)), some (dN (pers t)), none, none, none, none, none, none, none, none, none, none] = .ok .nx [some (dI h), some (dT t), some (dN (bord t)), some (dN (pers t)), some (.int (t.length : Int)), none, none, none, none, none, none, none, none, none] := by
    generalize dN (bord t) = BB at *
    generalize dN (pers t) = PP at *
    generalize dT t = T at *
    simp [gt]
  have tc := told_lc (t := t) (by omega) (h := h) (x5 := none) (x6 := none) (x7 := none) (x8 := none) (x9 := none) (x10 := none) (x11 := none) (x12 := none) (x13 := none)
  have np : gNe (dN (pers t)) (dN (pers t)) = some (.bl false) := by rw [gNe_dN]; simp
  have nb : gNe (dN (bord t)) (dN (bord t)) = some (.bl false) := by rw [gNe_dN]; simp
  have rb' : gRev (dN (bord t)) = some (.lst ((bord t).reverse.map fun k : Nat => D.int (k : Int))) := by
    show some (D.lst _) = _
    rw [List.map_reverse]
  have k4 : sIf (tB (e2 gNe (eV 3) (eLc [7] (iL (e1 gRev (eV 2))) (tgN 7) tTrue (e2 gSub (eV 4) (eV 7))))) (sRet (eC (.bl false))) sSkip [some (dI h), some (dT t), some (dN (bord t)), some (dN (pers t)), some (.int (t.length : Int)), none, none, none, none, none, none, none, none, none] = .ok .nx [some (dI h), some (dT t), some (dN (bord t)), some (dN (pers t)), some (.int (t.length : Int)), none, none, none, none, none, none, none, none, none] := by
    have np' : gNe (dN (pers t)) (.lst ((pers t).map fun k : Nat => D.int (k : Int))) = some (.bl false) := np
    generalize (bord t).reverse.map (fun k : Nat => D.int (k : Int)) = RB at *
    generalize (pers t).map (fun k : Nat => D.int (k : Int)) = P2 at *
    generalize dN (bord t) = BB at *
    generalize dN (pers t) = PP at *
    generalize dT t = T at *
    simp [rb', tc, np']
  have k5 : sIf (tB (e2 gNe (e2 gAdd (eSl (eV 2) oNone (oSome (eC (.int 1)))) (eSl (eV 3) (oSome (e1 gNeg (eC (.int 1)))) oNone)) (eSl (eN gLst (aCons (eC (.int 0)) (aCons (eV 4) aNil))) oNone (oSome (e2 gMul (eC (.int 2)) (eN gInt1 (aCons (e2 gGt (eV 4) (eC (.int 0))) aNil))))))) (sRet (eC (.bl false))) sSkip [some (dI h), some (dT t), some (dN (bord t)), some (dN (pers t)), some (.int (t.length : Int)), none, none, none, none, none, none, none, none, none] = .ok .nx [some (dI h), some (dT t), some (dN (bord t)), some (dN (pers t)), some (.int (t.length : Int)), none, none, none, none, none, none, none, none, none] := by
    by_cases t0 : t = []
    · subst t0
      have b0 : bord ([] : List Str) = [] := rfl
      have p0 : pers ([] : List Str) = [] := rfl
      rw [b0, p0]
      have c1 : cutA ([] : List D) none (some (1 : Int)) = [] := cutA_to [] 1
      have c2 : cutA ([] : List D) (some (-1 : Int)) none = [] := cutA_neg_from [] 1 (by decide)
      have c3 : cutA [D.int 0, .int 0] none (some (0 : Int)) = [] := cutA_to _ 0
      have m0 : mulOk 2 0 = true := mulOk_small (by decide) (by decide)
      simp [c1, c2, c3, m0, z2]
    · obtain ⟨r, hr⟩ := bord_head t0
      obtain ⟨r', hr'⟩ := pers_last t0
      have n0 := List.length_pos_iff.mpr t0
      have c1 : cutA ((bord t).map fun k : Nat => D.int (k : Int)) none (some (1 : Int)) = [.int 0] := by
        rw [cutA_map, show cutA (bord t) none (some (1 : Int)) = (bord t).take 1 from cutA_to _ 1, hr]; rfl
      have c2 : cutA ((pers t).map fun k : Nat => D.int (k : Int)) (some (-1 : Int)) none = [.int (t.length : Int)] := by
        rw [cutA_map, show (-1 : Int) = -((1 : Nat) : Int) from rfl, cutA_neg_from _ 1 (by decide), hr']
        have l1 : (r' ++ [t.length]).length - 1 = r'.length := by rw [List.length_append]; simp
        rw [l1, List.drop_left]; rfl
      have c3 : cutA [D.int 0, .int (t.length : Int)] none (some (2 : Int)) = [.int 0, .int (t.length : Int)] := cutA_to _ 2
      have m0 : mulOk 2 1 = true := mulOk_small (by decide) (by decide)
      have n0' : (0 : Int) < (t.length : Int) := by omega
      have ng : gNe (.lst [.int 0, .int (t.length : Int)]) (.lst [.int 0, .int (t.length : Int)]) = some (.bl false) := by
        have : gNe (dN [0, t.length]) (dN [0, t.length]) = some (.bl false) := by rw [gNe_dN]; simp
        exact this
      have L2 : (2 : Nat) ≤ LIM := by decide
      unfold dN
      generalize (bord t).map (fun k : Nat => D.int (k : Int)) = B2 at *
      generalize (pers t).map (fun k : Nat => D.int (k : Int)) = P2 at *
      generalize dT t = T at *
      simp [c1, c2, c3, m0, z2, n0', n0, ng, L2]
  have k6 : sIf (tAnd2 (tB (e2 gGt (eV 4) (eC (.int 0)))) (tAnd2 (tB (e2 gGt (e2 gIx (eV 2) (e1 gNeg (eC (.int 1)))) (eC (.int 0)))) (tB (e2 gNe (eCall F_borders (aCons (eSl (eV 1) oNone (oSome (e2 gIx (eV 2) (e1 gNeg (eC (.int 1)))))) aNil)) (eSl (eV 2) oNone (oSome (e1 gNeg (eC (.int 1))))))))) (sRet (eC (.bl false))) sSkip [some (dI h), some (dT t), some (dN (bord t)), some (dN (pers t)), some (.int (t.length : Int)), none, none, none, none, none, none, none, none, none] = .ok .nx [some (dI h), some (dT t), some (dN (bord t)), some (dN (pers t)), some (.int (t.length : Int)), none, none, none, none, none, none, none, none, none] := by
    by_cases t0 : t = []
    · have n0 : ¬ (0 : Int) < (t.length : Int) := by rw [t0]; decide
      have n0' : ¬ 0 < t.length := by rw [t0]; decide
      generalize dN (bord t) = BB at *
      generalize dN (pers t) = PP at *
      generalize dT t = T at *
      simp [n0, n0', t0]
    · have n0 := List.length_pos_iff.mpr t0
      have n0' : (0 : Int) < (t.length : Int) := by omega
      obtain ⟨r, hr⟩ := bord_head t0
      have ne : bord t ≠ [] := by rw [hr]; simp
      obtain ⟨g, w, hg⟩ : ∃ g w, bord t = w ++ [g] := ⟨(bord t).getLast ne, (bord t).dropLast, (List.dropLast_concat_getLast ne).symm⟩
      obtain ⟨b1, b2⟩ := bord_last hg
      have il : L2.atI ((bord t).map fun k : Nat => D.int (k : Int)) (-1) = some (.int (g : Int)) := by rw [atI_neg1, List.getLast?_map, hg, List.getLast?_concat]; rfl
      have cg : cutA (t.map D.str) none (some (g : Int)) = (t.take g).map D.str := by rw [cutA_map]; exact congrArg _ (cutA_to t g)
      have ci : cutA ((bord t).map fun k : Nat => D.int (k : Int)) none (some (-1)) = w.map fun k : Nat => D.int (k : Int) := by rw [cutA_map, cutA_init, hg, List.dropLast_concat]
      have bg := borders_val (ht.take g) (by rw [List.length_take]; omega)
      rw [b1] at bg
      have nw : gNe (dN w) (dN w) = some (.bl false) := by rw [gNe_dN]; simp
      have bg : F_borders [.lst ((t.take g).map D.str)] = .ok (dN w) (dT (t.take g)) := bg
      have nw : gNe (dN w) (.lst (w.map fun k : Nat => D.int (k : Int))) = some (.bl false) := nw
      generalize dN (pers t) = PP at *
      generalize dN w = W1 at *
      generalize w.map (fun k : Nat => D.int (k : Int)) = W2 at *
      generalize dT (t.take g) = T3 at *
      generalize (t.take g).map D.str = T2 at *
      unfold dN dT at *
      generalize (bord t).map (fun k : Nat => D.int (k : Int)) = B2 at *
      generalize hT : t.map D.str = TT at *
      by_cases g0 : 0 < g
      · have g0' : (0 : Int) < (g : Int) := by omega
        simp [n0, n0', il, g0, g0', cg, ci, bg, nw, t0]
      · have g0' : ¬ (0 : Int) < (g : Int) := by omega
        simp [n0, n0', il, g0, g0', t0]
  obtain ⟨y5, y10, k7⟩ := common_all (t := t) (by omega) (pers t) (fun _ h => h) (h := h) (x5 := none) (x6 := none) (x7 := none) (x8 := none) (x9 := none) (x10 := none) (x11 := none) (x12 := none) (x13 := none)
  have k7 : sFor (iL (eV 3)) (tgN 5) B__law_right_v33_l2 [some (dI h), some (dT t), some (dN (bord t)), some (dN (pers t)), some (.int (t.length : Int)), none, none, none, none, none, none, none, none, none] = .ok .nx [some (dI h), some (dT t), some (dN (bord t)), some (dN (pers t)), some (.int (t.length : Int)), y5, none, none, none, none, y10, none, none, none] := by
    unfold dN at k7 ⊢
    generalize (pers t).map (fun k : Nat => D.int (k : Int)) = P2 at *
    simp [k7]
  obtain ⟨L, h', rn, hh', q2, q3⟩ := renamed3_val hh
  have k8 : sSet 6 (eCallW F__law_renamed_v3 0 aNil) [some (dI h), some (dT t), some (dN (bord t)), some (dN (pers t)), some (.int (t.length : Int)), y5, none, none, none, none, y10, none, none, none] = .ok .nx [some (dI h'), some (dT t), some (dN (bord t)), some (dN (pers t)), some (.int (t.length : Int)), y5, some (.dic (L.map fun p => ((Sum.inr p.1 : L2.Key), D.str p.2))), none, none, none, y10, none, none, none] := by
    generalize (L.map fun p => ((Sum.inr p.1 : L2.Key), D.str p.2)) = LD at *
    generalize dN (bord t) = BB at *
    generalize dN (pers t) = PP at *
    generalize dT t = T at *
    simp [rn, List.all_map]
  have tr : Tx t.reverse := fun x hx => ht x (List.mem_reverse.mp hx)
  have brv := borders_val tr (by rw [List.length_reverse]; omega)
  rw [bord_rev] at brv
  have sgp : ∀ x, Sg x → x ∈ L.map (·.1) := fun x hx => by rw [q2]; exact (abcL_sg x).mpr hx
  have tm : Tx (t.map (rhoP L)) := fun x hx => by
    obtain ⟨y, hy, rfl⟩ := List.mem_map.mp hx
    obtain ⟨p, p1, p2, p3⟩ := (dval_rhoP L y (sgp y (ht y hy))).2
    rw [p3]
    exact (abcL_sg _).mp (q3.subset (List.mem_map.mpr ⟨p, p1, rfl⟩))
  have pmv := periods_val tm (by rw [List.length_map]; omega)
  rw [pers_map (fun x y hx hy e => rhoP_inj (q3.nodup_iff.mpr abcL_nodup) (sgp x hx) (sgp y hy) e) ht] at pmv
  have nl := names_lc ht (by omega) q2 (h := h') (x5 := y5) (x7 := none) (x8 := none) (x9 := none) (x10 := y10) (x11 := none) (x12 := none) (x13 := none) (x6 := none)
  have g1 : gRev (dT t) = some (dT t.reverse) := by
    show some (D.lst _) = some (D.lst _)
    rw [List.map_reverse]
  have k9 : sIf (tOr2 (tB (e2 gNe (eCall F_borders (aCons (e1 gRev (eV 1)) aNil)) (eV 2))) (tB (e2 gNe (eCall F_periods (aCons (eLc [13] (iL (eV 1)) (tgN 13) tTrue (e2 gDIx (eV 6) (eV 13))) aNil)) (eV 3)))) (sRet (eC (.bl false))) sSkip [some (dI h'), some (dT t), some (dN (bord t)), some (dN (pers t)), some (.int (t.length : Int)), y5, some (.dic (L.map fun p => ((Sum.inr p.1 : L2.Key), D.str p.2))), none, none, none, y10, none, none, none] = .ok .nx [some (dI h'), some (dT t), some (dN (bord t)), some (dN (pers t)), some (.int (t.length : Int)), y5, some (.dic (L.map fun p => ((Sum.inr p.1 : L2.Key), D.str p.2))), none, none, none, y10, none, none, none] := by
    have pmv : F_periods [.lst ((t.map (rhoP L)).map D.str)] = _ := pmv
    generalize (L.map fun p => ((Sum.inr p.1 : L2.Key), D.str p.2)) = LD at *
    generalize dT (t.map (rhoP L)) = TM at *
    generalize (t.map (rhoP L)).map D.str = TM2 at *
    generalize dT t.reverse = TR at *
    generalize dN (bord t) = BB at *
    generalize dN (pers t) = PP at *
    unfold dT at *
    generalize t.map D.str = TT at *
    simp [g1, brv, nb, nl, pmv, np, -gRev_l]
  have dr : ∀ b ∈ (bord t).drop 1, b ∈ bord t ∧ 0 < b := fun b hb => by
    refine ⟨List.mem_of_mem_drop hb, ?_⟩
    by_cases t0 : t = []
    · subst t0; cases hb
    · obtain ⟨r, hr⟩ := bord_head t0
      have srt : (bord t).Pairwise (· < ·) := List.Pairwise.filter _ List.pairwise_lt_range
      rw [hr] at srt hb
      exact List.rel_of_pairwise_cons srt hb
  obtain ⟨y7, y11, k10⟩ := border_all ht (by omega) ((bord t).drop 1) dr (h := h') (x5 := y5) (x6 := some (.dic (L.map fun p => ((Sum.inr p.1 : L2.Key), D.str p.2)))) (x7 := none) (x8 := none) (x9 := none) (x10 := y10) (x11 := none) (x12 := none) (x13 := none)
  have k10 : sFor (iL (eSl (eV 2) (oSome (eC (.int 1))) oNone)) (tgN 7) B__law_right_v33_l3 [some (dI h'), some (dT t), some (dN (bord t)), some (dN (pers t)), some (.int (t.length : Int)), y5, some (.dic (L.map fun p => ((Sum.inr p.1 : L2.Key), D.str p.2))), none, none, none, y10, none, none, none] = .ok .nx [some (dI h'), some (dT t), some (dN (bord t)), some (dN (pers t)), some (.int (t.length : Int)), y5, some (.dic (L.map fun p => ((Sum.inr p.1 : L2.Key), D.str p.2))), y7, none, none, y10, y11, none, none] := by
    have c1 : cutA ((bord t).map fun k : Nat => D.int (k : Int)) (some (1 : Int)) none = ((bord t).drop 1).map fun k : Nat => D.int (k : Int) := by
      rw [cutA_map]; exact congrArg _ (cutA_from _ 1)
    generalize (L.map fun p => ((Sum.inr p.1 : L2.Key), D.str p.2)) = LD at *
    unfold dN at k10 ⊢
    generalize ((bord t).drop 1).map (fun k : Nat => D.int (k : Int)) = D1 at *
    generalize (bord t).map (fun k : Nat => D.int (k : Int)) = B2 at *
    simp [c1, k10]
  refine ⟨h', hh', ?_⟩
  have ev : envOf 14 [dI h, dT t] = [some (dI h), some (dT t), none, none, none, none, none, none, none, none, none, none, none, none] := rfl
  simp only [F__law_right_v33, r_runF, B__law_right_v33]
  rw [ev, r_sSeq, k1, rb_ok, sqK_nx, r_sSeq, k2, rb_ok, sqK_nx, r_sSeq, k3, rb_ok, sqK_nx, r_sSeq, k4, rb_ok, sqK_nx, r_sSeq, k5, rb_ok, sqK_nx, r_sSeq, k6, rb_ok, sqK_nx, r_sSeq, k7, rb_ok, sqK_nx, r_sSeq, k8, rb_ok, sqK_nx, r_sSeq, k9, rb_ok, sqK_nx, r_sSeq, k10, rb_ok, sqK_nx, r_sSeq]
  generalize (D.dic (L.map fun p => ((Sum.inr p.1 : L2.Key), D.str p.2))) = LD
  by_cases t0 : t = []
  · have n0 : gEq (.int (t.length : Int)) (.int 0) = some (.bl true) := by rw [t0]; simp
    generalize dN (bord t) = BB at *
    generalize dN (pers t) = PP at *
    generalize dT t = T at *
    simp [n0]
  · have n1 := List.length_pos_iff.mpr t0
    have n0 : gEq (.int (t.length : Int)) (.int 0) = some (.bl false) := by
      show some (D.bl (decide ((t.length : Int) = 0))) = _
      rw [decide_eq_false (by omega)]
    have k11 : sIf (tB (e2 gEq (eV 4) (eC (.int 0)))) (sRet (eC (.bl true))) sSkip [some (dI h'), some (dT t), some (dN (bord t)), some (dN (pers t)), some (.int (t.length : Int)), y5, some LD, y7, none, none, y10, y11, none, none] = .ok .nx [some (dI h'), some (dT t), some (dN (bord t)), some (dN (pers t)), some (.int (t.length : Int)), y5, some LD, y7, none, none, y10, y11, none, none] := by
      generalize dN (bord t) = BB at *
      generalize dN (pers t) = PP at *
      generalize dT t = T at *
      simp [n0]
    rw [k11, rb_ok, sqK_nx, r_sSeq]
    have la := lies_at_val (ht.append ht) ht t0 (by rw [List.length_append]; omega) (by omega)
    have ll := lies_len (t ++ t) t
    rw [List.length_append] at ll
    have tw := twice_lc (t := t) (L := lies (t ++ t) t) (by omega) (by omega) (h := h') (x5 := y5) (x6 := some LD) (x7 := y7) (x8 := none) (x9 := none) (x10 := y10) (x11 := y11) (x12 := none) (x13 := none)
    have m1 := mapA t t
    have L1 : (t.map D.str).length + (t.map D.str).length ≤ LIM := by rw [List.length_map]; show _ ≤ 100000; omega
    have k12 : sSet 8 (eLc [12] (iL (eCall F_lies_at (aCons (e2 gAdd (eV 1) (eV 1)) (aCons (eV 1) aNil)))) (tgN 12) (tB (e2 gLt (eV 12) (eV 4))) (eV 12)) [some (dI h'), some (dT t), some (dN (bord t)), some (dN (pers t)), some (.int (t.length : Int)), y5, some LD, y7, none, none, y10, y11, none, none] = .ok .nx [some (dI h'), some (dT t), some (dN (bord t)), some (dN (pers t)), some (.int (t.length : Int)), y5, some LD, y7, some (dN ((lies (t ++ t) t).filter fun p => decide (p < t.length))), none, y10, y11, none, none] := by
      have la : F_lies_at [.lst ((t ++ t).map D.str), dT t] = _ := la
      rw [← m1] at la
      unfold dN at *
      generalize ((lies (t ++ t) t).filter fun p => decide (p < t.length)).map (fun k : Nat => D.int (k : Int)) = TW at *
      generalize (lies (t ++ t) t).map (fun k : Nat => D.int (k : Int)) = LA at *
      generalize (bord t).map (fun k : Nat => D.int (k : Int)) = B2 at *
      generalize (pers t).map (fun k : Nat => D.int (k : Int)) = P2 at *
      generalize dT (t ++ t) = T4 at *
      unfold dT at *
      generalize t.map D.str = TT at *
      simp [L1, la, tw]
    rw [k12, rb_ok, sqK_nx, r_sSeq]
    have lc := least_lc (t := t) (by omega) (h := h') (x5 := none) (x6 := some LD) (x7 := y7) (x8 := some (dN ((lies (t ++ t) t).filter fun p => decide (p < t.length)))) (x9 := none) (x10 := y10) (x11 := y11) (x12 := none) (x13 := none)
    have pn : t.length ∈ pers t := by
      obtain ⟨r, hr⟩ := pers_last t0
      rw [hr]; simp
    have fne : (pers t).filter (fun p => decide (t.length % p = 0)) ≠ [] := fun z => by
      have : t.length ∈ (pers t).filter (fun p => decide (t.length % p = 0)) := List.mem_filter.mpr ⟨pn, decide_eq_true (Nat.mod_self _)⟩
      rw [z] at this; cases this
    obtain ⟨d, m1', m2, m3⟩ := min1_nat fne
    obtain ⟨d1, d2⟩ := List.mem_filter.mp m2
    have dv : d ∣ t.length := Nat.dvd_of_mod_eq_zero (of_decide_eq_true d2)
    have d0 := (mem_pers.mp d1).1
    have te := twice_eq d1 dv (fun e he hv => m3 e (List.mem_filter.mpr ⟨he, decide_eq_true (Nat.mod_eq_zero_of_dvd hv)⟩)) n1
    have k13 : sSet 9 (eN gMin1 (aCons (eLc [5] (iL (eV 3)) (tgN 5) (tB (e2 gEq (e2 gMod (eV 4) (eV 5)) (eC (.int 0)))) (eV 5)) aNil)) [some (dI h'), some (dT t), some (dN (bord t)), some (dN (pers t)), some (.int (t.length : Int)), y5, some LD, y7, some (dN ((lies (t ++ t) t).filter fun p => decide (p < t.length))), none, y10, y11, none, none] = .ok .nx [some (dI h'), some (dT t), some (dN (bord t)), some (dN (pers t)), some (.int (t.length : Int)), y5, some LD, y7, some (dN ((lies (t ++ t) t).filter fun p => decide (p < t.length))), some (.int (d : Int)), y10, y11, none, none] := by
      unfold dN at *
      generalize ((lies (t ++ t) t).filter fun p => decide (p < t.length)).map (fun k : Nat => D.int (k : Int)) = TW at *
      generalize ((pers t).filter fun p => decide (t.length % p = 0)).map (fun k : Nat => D.int (k : Int)) = FP at *
      generalize (bord t).map (fun k : Nat => D.int (k : Int)) = B2 at *
      generalize (pers t).map (fun k : Nat => D.int (k : Int)) = P2 at *
      simp [lc, m1']
    rw [k13, rb_ok, sqK_nx]
    have ls := lies_at_val ht ht t0 (by omega) (by omega)
    rw [lies_self] at ls
    have e0 : gEq (dN [0]) (.lst [.int 0]) = some (.bl true) := by
      have : gEq (dN [0]) (dN [0]) = some (.bl true) := by rw [gEq_dN]; simp
      exact this
    have lr := lr3_mul n1 (by omega) dv (by omega)
    have e1 : gEq (dN ((lies (t ++ t) t).filter fun p => decide (p < t.length))) (dN ((List.range (t.length / d)).map (· * d))) = some (.bl true) := by
      rw [te, gEq_dN]; simp
    generalize dN ((lies (t ++ t) t).filter fun p => decide (p < t.length)) = TW at *
    generalize dN ((List.range (t.length / d)).map (· * d)) = TR at *
    generalize dN [0] = Z0 at *
    generalize dN (bord t) = BB at *
    generalize dN (pers t) = PP at *
    generalize dT t = T at *
    simp [ls, e0, lr, e1, z1, -gLR3_i]
end
theorem k04_cell {q : D} {c : Int} {xs : List (Option D)} (hx : xs.length = 1) : ∃ ys, ys.length = 1 ∧ B_law_k04_l1 (some q :: some (.int c) :: xs) = .ok .nx (some q :: some (.int c) :: ys) := by
  match xs, hx with
  | [x2], _ =>
  obtain ⟨h, io, a1, a2⟩ := hand_ok c
  obtain ⟨z, n, h1, b1, b2, b3, b4, b5⟩ := letters_ok a2
  obtain ⟨t, h2, c1, c2, c3, c4⟩ := text_ok b2 b3 b4 b5
  have ct : cutA t none (some (100 : Int)) = t.take 100 := cutA_to t 100
  obtain ⟨h3, hh, r⟩ := right33_ok (c2.take 100) (by rw [List.length_take]; omega) c4
  have al : ∀ h : List Int, (h.map D.int).all D.sc = true := fun h => all_ints _
  refine ⟨[some (dI h3)], rfl, ?_⟩
  have r : F__law_right_v33 [dI h2, .lst ((t.take 100).map D.str)] = _ := r
  have ct : cutA (t.map D.str) none (some (100 : Int)) = (t.take 100).map D.str := by rw [cutA_map, ct]
  generalize (t.take 100).map D.str = T2 at *
  unfold dT at *
  generalize t.map D.str = TT at *
  simp [B_law_k04_l1, a1, al, b1, c1, ct, r]
theorem true_law_k04 (ns : List Int) (hl : ns.length ≤ 63) : ∃ io, F_law_k04 [.lst (ns.map .int)] = .ok (.bl true) io := by
  have hsz : (1 : Nat) ≤ PySem.sizeLine := by decide
  have hc := cutA_len ns none (some 8)
  have hL : 1 + (cutA ns none (some 8)).length ≤ LIM := by show _ ≤ 100000; omega
  have hp : L2.CPow 10 18 := ⟨by decide, by decide, by decide⟩
  obtain ⟨y1, ys, _, h1⟩ := for_cells (q := .lst (ns.map .int)) (fun c xs hx => k04_cell (q := .lst (ns.map .int)) (c := c) hx) (10 ^ 18 :: cutA ns none (some 8)) none (List.replicate 1 none) rfl
  refine ⟨.lst (ns.map .int), ?_⟩
  simp only [F_law_k04, r_runF, B_law_k04]
  simp at h1
  simp [hsz, hp, List.all_map, cutA_map, hL, h1]
end Ov
namespace Lk04
open PySem PySem.Spec PyProof.Rows L2 MV Ov
def topS (i : Nat) : Stmt := PySem.Challenge.pw_overlaid_k04_whole_borders.main.body.getD i (.Pass ⟨0, 0, 0, 0⟩)
abbrev s_need_word : Stmt := topS 6
abbrev N_need_word : List Str := [Str.ofString "word"]
abbrev ps_need_word : List Str := [Str.ofString "word"]
theorem sc_need_word : FnScope N_need_word ps_need_word (defScope s_need_word) := ⟨rfl, rfl, rfl, by decide +kernel, rfl, by decide +kernel, by decide +kernel⟩
def cf_need_word (K : PySem.W.Frag) (mg : Str → Option Value) : Cf := ⟨K, fun i => [Kd.S].getD i .S, cvK K⟩
abbrev s_need_signs : Stmt := topS 7
abbrev N_need_signs : List Str := [Str.ofString "signs", Str.ofString "sign"]
abbrev ps_need_signs : List Str := [Str.ofString "signs"]
theorem sc_need_signs : FnScope N_need_signs ps_need_signs (defScope s_need_signs) := ⟨rfl, rfl, rfl, by decide +kernel, rfl, by decide +kernel, by decide +kernel⟩
def cf_need_signs (K : PySem.W.Frag) (mg : Str → Option Value) : Cf := ⟨K, fun i => [Kd.S, Kd.S].getD i .S, cvK K⟩
abbrev s_greatest_borders : Stmt := topS 8
abbrev N_greatest_borders : List Str := [Str.ofString "text", Str.ofString "found", Str.ofString "border", Str.ofString "place", Str.ofString "sign"]
abbrev ps_greatest_borders : List Str := [Str.ofString "text"]
theorem sc_greatest_borders : FnScope N_greatest_borders ps_greatest_borders (defScope s_greatest_borders) := ⟨rfl, rfl, rfl, by decide +kernel, rfl, by decide +kernel, by decide +kernel⟩
def cf_greatest_borders (K : PySem.W.Frag) (mg : Str → Option Value) : Cf := ⟨K, fun i => [Kd.S, Kd.M, Kd.S, Kd.S, Kd.S].getD i .S, cvK K⟩
abbrev s_laid_at : Stmt := topS 11
abbrev N_laid_at : List Str := [Str.ofString "text", Str.ofString "word", Str.ofString "size", Str.ofString "place"]
abbrev ps_laid_at : List Str := [Str.ofString "text", Str.ofString "word"]
theorem sc_laid_at : FnScope N_laid_at ps_laid_at (defScope s_laid_at) := ⟨rfl, rfl, rfl, by decide +kernel, rfl, by decide +kernel, by decide +kernel⟩
def cf_laid_at (K : PySem.W.Frag) (mg : Str → Option Value) : Cf := ⟨K, fun i => [Kd.S, Kd.S, Kd.S, Kd.S].getD i .S, cvK K⟩
abbrev s__law_hand : Stmt := topS 14
abbrev N__law_hand : List Str := [Str.ofString "cell"]
abbrev ps__law_hand : List Str := [Str.ofString "cell"]
theorem sc__law_hand : FnScope N__law_hand ps__law_hand (defScope s__law_hand) := ⟨rfl, rfl, rfl, by decide +kernel, rfl, by decide +kernel, by decide +kernel⟩
def cf__law_hand (K : PySem.W.Frag) (mg : Str → Option Value) : Cf := ⟨K, fun i => [Kd.S].getD i .S, cvK K⟩
abbrev s__law_take : Stmt := topS 15
abbrev N__law_take : List Str := [Str.ofString "hand", Str.ofString "many", Str.ofString "taken"]
abbrev ps__law_take : List Str := [Str.ofString "hand", Str.ofString "many"]
theorem sc__law_take : FnScope N__law_take ps__law_take (defScope s__law_take) := ⟨rfl, rfl, rfl, by decide +kernel, rfl, by decide +kernel, by decide +kernel⟩
def cf__law_take (K : PySem.W.Frag) (mg : Str → Option Value) : Cf := ⟨K, fun i => [Kd.W, Kd.S, Kd.N].getD i .S, cvK K⟩
abbrev s__law_ends : Stmt := topS 18
abbrev N__law_ends : List Str := [Str.ofString "text", Str.ofString "k"]
abbrev ps__law_ends : List Str := [Str.ofString "text"]
theorem sc__law_ends : FnScope N__law_ends ps__law_ends (defScope s__law_ends) := ⟨rfl, rfl, rfl, by decide +kernel, rfl, by decide +kernel, by decide +kernel⟩
def cf__law_ends (K : PySem.W.Frag) (mg : Str → Option Value) : Cf := ⟨K, fun i => [Kd.S, Kd.S].getD i .S, cvK K⟩
abbrev s__law_common : Stmt := topS 22
abbrev N__law_common : List Str := [Str.ofString "one", Str.ofString "other"]
abbrev ps__law_common : List Str := [Str.ofString "one", Str.ofString "other"]
theorem sc__law_common : FnScope N__law_common ps__law_common (defScope s__law_common) := ⟨rfl, rfl, rfl, by decide +kernel, rfl, by decide +kernel, by decide +kernel⟩
def cf__law_common (K : PySem.W.Frag) (mg : Str → Option Value) : Cf := ⟨K, fun i => [Kd.S, Kd.S].getD i .S, cvK K⟩
abbrev s_borders : Stmt := topS 9
abbrev N_borders : List Str := [Str.ofString "text", Str.ofString "found", Str.ofString "greatest", Str.ofString "border"]
abbrev ps_borders : List Str := [Str.ofString "text"]
theorem sc_borders : FnScope N_borders ps_borders (defScope s_borders) := ⟨rfl, rfl, rfl, by decide +kernel, rfl, by decide +kernel, by decide +kernel⟩
def cf_borders (K : PySem.W.Frag) (mg : Str → Option Value) : Cf := ⟨K, fun i => [Kd.S, Kd.M, Kd.S, Kd.S].getD i .S, cvK K⟩
abbrev s_lies_at : Stmt := topS 12
abbrev N_lies_at : List Str := [Str.ofString "text", Str.ofString "word"]
abbrev ps_lies_at : List Str := [Str.ofString "text", Str.ofString "word"]
theorem sc_lies_at : FnScope N_lies_at ps_lies_at (defScope s_lies_at) := ⟨rfl, rfl, rfl, by decide +kernel, rfl, by decide +kernel, by decide +kernel⟩
def cf_lies_at (K : PySem.W.Frag) (mg : Str → Option Value) : Cf := ⟨K, fun i => [Kd.S, Kd.S].getD i .S, cvK K⟩
abbrev s__law_letters : Stmt := topS 16
abbrev N__law_letters : List Str := [Str.ofString "hand", Str.ofString "left", Str.ofString "found", Str.ofString "k", Str.ofString "at"]
abbrev ps__law_letters : List Str := [Str.ofString "hand"]
theorem sc__law_letters : FnScope N__law_letters ps__law_letters (defScope s__law_letters) := ⟨rfl, rfl, rfl, by decide +kernel, rfl, by decide +kernel, by decide +kernel⟩
def cf__law_letters (K : PySem.W.Frag) (mg : Str → Option Value) : Cf := ⟨K, fun i => [Kd.W, Kd.S, Kd.N, Kd.S, Kd.S].getD i .S, cvK K⟩
abbrev s__law_signs : Stmt := topS 17
abbrev N__law_signs : List Str := [Str.ofString "hand", Str.ofString "letters", Str.ofString "many", Str.ofString "k"]
abbrev ps__law_signs : List Str := [Str.ofString "hand", Str.ofString "letters", Str.ofString "many"]
theorem sc__law_signs : FnScope N__law_signs ps__law_signs (defScope s__law_signs) := ⟨rfl, rfl, rfl, by decide +kernel, rfl, by decide +kernel, by decide +kernel⟩
def cf__law_signs (K : PySem.W.Frag) (mg : Str → Option Value) : Cf := ⟨K, fun i => [Kd.W, Kd.S, Kd.S, Kd.S].getD i .S, cvK K⟩
abbrev s__law_laid : Stmt := topS 19
abbrev N__law_laid : List Str := [Str.ofString "hand", Str.ofString "word", Str.ofString "most", Str.ofString "found", Str.ofString "some", Str.ofString "k", Str.ofString "at"]
abbrev ps__law_laid : List Str := [Str.ofString "hand", Str.ofString "word", Str.ofString "most"]
theorem sc__law_laid : FnScope N__law_laid ps__law_laid (defScope s__law_laid) := ⟨rfl, rfl, rfl, by decide +kernel, rfl, by decide +kernel, by decide +kernel⟩
def cf__law_laid (K : PySem.W.Frag) (mg : Str → Option Value) : Cf := ⟨K, fun i => [Kd.W, Kd.S, Kd.S, Kd.N, Kd.S, Kd.S, Kd.S].getD i .S, cvK K⟩
abbrev s__law_renamed : Stmt := topS 21
abbrev N__law_renamed : List Str := [Str.ofString "hand", Str.ofString "left", Str.ofString "sign"]
abbrev ps__law_renamed : List Str := [Str.ofString "hand"]
theorem sc__law_renamed : FnScope N__law_renamed ps__law_renamed (defScope s__law_renamed) := ⟨rfl, rfl, rfl, by decide +kernel, rfl, by decide +kernel, by decide +kernel⟩
def cf__law_renamed (K : PySem.W.Frag) (mg : Str → Option Value) : Cf := ⟨K, fun i => [Kd.W, Kd.W, Kd.S].getD i .S, cvK K⟩
abbrev s_periods : Stmt := topS 10
abbrev N_periods : List Str := [Str.ofString "text", Str.ofString "border"]
abbrev ps_periods : List Str := [Str.ofString "text"]
theorem sc_periods : FnScope N_periods ps_periods (defScope s_periods) := ⟨rfl, rfl, rfl, by decide +kernel, rfl, by decide +kernel, by decide +kernel⟩
def cf_periods (K : PySem.W.Frag) (mg : Str → Option Value) : Cf := ⟨K, fun i => [Kd.S, Kd.S].getD i .S, cvK K⟩
abbrev s__law_text : Stmt := topS 20
abbrev N__law_text : List Str := [Str.ofString "hand", Str.ofString "letters", Str.ofString "most", Str.ofString "text", Str.ofString "turn", Str.ofString "way", Str.ofString "at"]
abbrev ps__law_text : List Str := [Str.ofString "hand", Str.ofString "letters"]
theorem sc__law_text : FnScope N__law_text ps__law_text (defScope s__law_text) := ⟨rfl, rfl, rfl, by decide +kernel, rfl, by decide +kernel, by decide +kernel⟩
def cf__law_text (K : PySem.W.Frag) (mg : Str → Option Value) : Cf := ⟨K, fun i => [Kd.W, Kd.S, Kd.S, Kd.M, Kd.S, Kd.S, Kd.S].getD i .S, cvK K⟩
abbrev s__law_right : Stmt := topS 23
abbrev N__law_right : List Str := [Str.ofString "hand", Str.ofString "text", Str.ofString "found", Str.ofString "told", Str.ofString "size", Str.ofString "one", Str.ofString "names", Str.ofString "border", Str.ofString "twice", Str.ofString "least", Str.ofString "other", Str.ofString "places", Str.ofString "place", Str.ofString "sign"]
abbrev ps__law_right : List Str := [Str.ofString "hand", Str.ofString "text"]
theorem sc__law_right : FnScope N__law_right ps__law_right (defScope s__law_right) := ⟨rfl, rfl, rfl, by decide +kernel, rfl, by decide +kernel, by decide +kernel⟩
def cf__law_right (K : PySem.W.Frag) (mg : Str → Option Value) : Cf := ⟨K, fun i => [Kd.W, Kd.S, Kd.S, Kd.S, Kd.S, Kd.S, Kd.S, Kd.S, Kd.S, Kd.S, Kd.S, Kd.S, Kd.S, Kd.S].getD i .S, cvK K⟩
abbrev s_law : Stmt := topS 24
abbrev N_law : List Str := [Str.ofString "script", Str.ofString "cell", Str.ofString "hand"]
abbrev ps_law : List Str := [Str.ofString "script"]
theorem sc_law : FnScope N_law ps_law (defScope s_law) := ⟨rfl, rfl, rfl, by decide +kernel, rfl, by decide +kernel, by decide +kernel⟩
def cf_law (K : PySem.W.Frag) (mg : Str → Option Value) : Cf := ⟨K, fun i => [Kd.Q, Kd.S, Kd.W].getD i .S, cvK K⟩
structure Tp (K : PySem.W.Frag) (mg : Str → Option Value) where
  f_need_word : Addr
  d_need_word : FuncData
  F_need_word : Fun K (Str.ofString "need_word") (Str.ofString "need_word") s_need_word f_need_word d_need_word
  g_need_word : mg (Str.ofString "need_word") = some (.ref f_need_word)
  b_need_word : Binds K d_need_word ps_need_word []
  f_need_signs : Addr
  d_need_signs : FuncData
  F_need_signs : Fun K (Str.ofString "need_signs") (Str.ofString "need_signs") s_need_signs f_need_signs d_need_signs
  g_need_signs : mg (Str.ofString "need_signs") = some (.ref f_need_signs)
  b_need_signs : Binds K d_need_signs ps_need_signs []
  f_greatest_borders : Addr
  d_greatest_borders : FuncData
  F_greatest_borders : Fun K (Str.ofString "greatest_borders") (Str.ofString "greatest_borders") s_greatest_borders f_greatest_borders d_greatest_borders
  g_greatest_borders : mg (Str.ofString "greatest_borders") = some (.ref f_greatest_borders)
  b_greatest_borders : Binds K d_greatest_borders ps_greatest_borders []
  f_laid_at : Addr
  d_laid_at : FuncData
  F_laid_at : Fun K (Str.ofString "laid_at") (Str.ofString "laid_at") s_laid_at f_laid_at d_laid_at
  g_laid_at : mg (Str.ofString "laid_at") = some (.ref f_laid_at)
  b_laid_at : Binds K d_laid_at ps_laid_at []
  f__law_hand : Addr
  d__law_hand : FuncData
  F__law_hand : Fun K (Str.ofString "_law_hand") (Str.ofString "_law_hand") s__law_hand f__law_hand d__law_hand
  g__law_hand : mg (Str.ofString "_law_hand") = some (.ref f__law_hand)
  b__law_hand : Binds K d__law_hand ps__law_hand []
  f__law_take : Addr
  d__law_take : FuncData
  F__law_take : Fun K (Str.ofString "_law_take") (Str.ofString "_law_take") s__law_take f__law_take d__law_take
  g__law_take : mg (Str.ofString "_law_take") = some (.ref f__law_take)
  b__law_take : Binds K d__law_take ps__law_take []
  f__law_ends : Addr
  d__law_ends : FuncData
  F__law_ends : Fun K (Str.ofString "_law_ends") (Str.ofString "_law_ends") s__law_ends f__law_ends d__law_ends
  g__law_ends : mg (Str.ofString "_law_ends") = some (.ref f__law_ends)
  b__law_ends : Binds K d__law_ends ps__law_ends []
  f__law_common : Addr
  d__law_common : FuncData
  F__law_common : Fun K (Str.ofString "_law_common") (Str.ofString "_law_common") s__law_common f__law_common d__law_common
  g__law_common : mg (Str.ofString "_law_common") = some (.ref f__law_common)
  b__law_common : Binds K d__law_common ps__law_common []
  f_borders : Addr
  d_borders : FuncData
  F_borders : Fun K (Str.ofString "borders") (Str.ofString "borders") s_borders f_borders d_borders
  g_borders : mg (Str.ofString "borders") = some (.ref f_borders)
  b_borders : Binds K d_borders ps_borders []
  f_lies_at : Addr
  d_lies_at : FuncData
  F_lies_at : Fun K (Str.ofString "lies_at") (Str.ofString "lies_at") s_lies_at f_lies_at d_lies_at
  g_lies_at : mg (Str.ofString "lies_at") = some (.ref f_lies_at)
  b_lies_at : Binds K d_lies_at ps_lies_at []
  f__law_letters : Addr
  d__law_letters : FuncData
  F__law_letters : Fun K (Str.ofString "_law_letters") (Str.ofString "_law_letters") s__law_letters f__law_letters d__law_letters
  g__law_letters : mg (Str.ofString "_law_letters") = some (.ref f__law_letters)
  b__law_letters : Binds K d__law_letters ps__law_letters []
  f__law_signs : Addr
  d__law_signs : FuncData
  F__law_signs : Fun K (Str.ofString "_law_signs") (Str.ofString "_law_signs") s__law_signs f__law_signs d__law_signs
  g__law_signs : mg (Str.ofString "_law_signs") = some (.ref f__law_signs)
  b__law_signs : Binds K d__law_signs ps__law_signs []
  f__law_laid : Addr
  d__law_laid : FuncData
  F__law_laid : Fun K (Str.ofString "_law_laid") (Str.ofString "_law_laid") s__law_laid f__law_laid d__law_laid
  g__law_laid : mg (Str.ofString "_law_laid") = some (.ref f__law_laid)
  b__law_laid : Binds K d__law_laid ps__law_laid []
  f__law_renamed : Addr
  d__law_renamed : FuncData
  F__law_renamed : Fun K (Str.ofString "_law_renamed") (Str.ofString "_law_renamed") s__law_renamed f__law_renamed d__law_renamed
  g__law_renamed : mg (Str.ofString "_law_renamed") = some (.ref f__law_renamed)
  b__law_renamed : Binds K d__law_renamed ps__law_renamed []
  f_periods : Addr
  d_periods : FuncData
  F_periods : Fun K (Str.ofString "periods") (Str.ofString "periods") s_periods f_periods d_periods
  g_periods : mg (Str.ofString "periods") = some (.ref f_periods)
  b_periods : Binds K d_periods ps_periods []
  f__law_text : Addr
  d__law_text : FuncData
  F__law_text : Fun K (Str.ofString "_law_text") (Str.ofString "_law_text") s__law_text f__law_text d__law_text
  g__law_text : mg (Str.ofString "_law_text") = some (.ref f__law_text)
  b__law_text : Binds K d__law_text ps__law_text []
  f__law_right : Addr
  d__law_right : FuncData
  F__law_right : Fun K (Str.ofString "_law_right") (Str.ofString "_law_right") s__law_right f__law_right d__law_right
  g__law_right : mg (Str.ofString "_law_right") = some (.ref f__law_right)
  b__law_right : Binds K d__law_right ps__law_right []
  f_law : Addr
  d_law : FuncData
  F_law : Fun K (Str.ofString "law") (Str.ofString "law") s_law f_law d_law
  g_law : mg (Str.ofString "law") = some (.ref f_law)
  b_law : Binds K d_law ps_law []
  t_LETTERS : Tok
  g_LETTERS : mg (Str.ofString "LETTERS") = some (.str (Str.ofString "abcdefghijklmnopqrstuvwxyz") t_LETTERS)
  m_dict : mg (Str.ofString "dict") = none
  m_enumerate : mg (Str.ofString "enumerate") = none
  m_int : mg (Str.ofString "int") = none
  m_len : mg (Str.ofString "len") = none
  m_list : mg (Str.ofString "list") = none
  m_max : mg (Str.ofString "max") = none
  m_min : mg (Str.ofString "min") = none
  m_range : mg (Str.ofString "range") = none
  C_NoWord : Addr
  X_NoWord : XCls K mg (Str.ofString "NoWord") C_NoWord
  C_NoSign : Addr
  X_NoSign : XCls K mg (Str.ofString "NoSign") C_NoSign
section
variable {P : Program} {w : World} {K : PySem.W.Frag} {mg : Str → Option Value} {base : Heap}
theorem ok_need_word (T : Tp K mg) : FnOk P w K mg base (L2N.CX P w) 1 T.f_need_word T.d_need_word ps_need_word (spP K (cvK K) 1 F_need_word) :=
  fn_P N_need_word ps_need_word 1 1 (cf_need_word K mg) B_need_word rfl rfl T.F_need_word sc_need_word rfl (fun i h1 => by
    match i, h1 with
    | 0, _ => exact rfl
    | i + 1, h => exact absurd h (by simp)) (fun cdv A outer s H E hr tk pw =>
  (sss_one (ss_if (st_eq rfl hr.units (se_vS 0 (pv 0) rfl) (se_lst (c := .V) sa_nil)) (sss_one (ss_raise rfl rfl rfl tk T.X_NoWord)) sss_nil)))
theorem ok_need_signs (T : Tp K mg) : FnOk P w K mg base (L2N.CX P w) 1 T.f_need_signs T.d_need_signs ps_need_signs (spP K (cvK K) 1 F_need_signs) :=
  fn_P N_need_signs ps_need_signs 2 1 (cf_need_signs K mg) B_need_signs rfl rfl T.F_need_signs sc_need_signs rfl (fun i h1 => by
    match i, h1 with
    | 0, _ => exact rfl
    | i + 1, h => exact absurd h (by simp)) (fun cdv A outer s H E hr tk pw =>
  (sss_one (ss_if (st_ne rfl hr.units (se_lc (c := .S) (own := [(Str.ofString "sign", 1)]) rfl (own1 rfl) rfl sc_need_signs.nd (SI.w (si_list rfl (se_vS 0 (pv 0) rfl))) (blkOk_by (own := [(Str.ofString "sign", 1)]) (N := N_need_signs) (sc := (defScope s_need_signs)) (by decide +kernel)) (fun _ _ _ _ _ => (sgt_name (i := 1) (is := [1]) List.mem_cons_self rfl sc_need_signs.nd rfl (Or.inl rfl))) (fun _ _ _ _ _ => (sts_one (st_or2 (st_ne rfl hr.units (se_len rfl T.m_len (sa_cons (se_vS 1 (pv 1) rfl) sa_nil)) se_int) (st_notIn rfl (se_vS 1 (pv 1) rfl) (se_glob (v := (.str (Str.ofString "abcdefghijklmnopqrstuvwxyz"))) (pe_glob (by rfl) T.g_LETTERS ⟨_, rfl⟩) rfl))))) (fun _ _ _ _ _ => (se_vS 1 (pv 1) rfl))) (se_lst (c := .V) sa_nil)) (sss_one (ss_raise rfl rfl rfl tk T.X_NoSign)) sss_nil)))
theorem ok_greatest_borders (T : Tp K mg) : FnOk P w K mg base (L2N.CX P w) 1 T.f_greatest_borders T.d_greatest_borders ps_greatest_borders (spP K (cvK K) 1 F_greatest_borders) :=
  fn_P N_greatest_borders ps_greatest_borders 5 1 (cf_greatest_borders K mg) B_greatest_borders rfl rfl T.F_greatest_borders sc_greatest_borders rfl (fun i h1 => by
    match i, h1 with
    | 0, _ => exact rfl
    | i + 1, h => exact absurd h (by simp)) (fun cdv A outer s H E hr tk pw =>
  (sss_cons (ss_setM (sg_of (i := 1) (se_lst (c := .V) sa_nil) sc_greatest_borders.nd rfl (Or.inl rfl)) rfl)
  (sss_cons (ss_setS (sg_of (i := 2) (SE.le se_int .vs) sc_greatest_borders.nd rfl (Or.inl rfl)) rfl)
  (sss_cons (ss_for pw rfl (si_enum rfl (by rfl) T.m_enumerate (sa_cons (se_vS 0 (pv 0) rfl) sa_nil)) (sgt_tup (is := [3, 4]) (js := [3, 4]) rfl rfl (sgts_cons (i := 3) (by decide) rfl sc_greatest_borders.nd rfl (Or.inl rfl) (sgts_cons (i := 4) (by decide) rfl sc_greatest_borders.nd rfl (Or.inl rfl) sgts_nil)) rfl) (sss_cons (ss_if (st_gt (se_vS 3 (pv 3) rfl) se_int) (sss_cons (ss_while WFUEL pw (st_and2 (st_gt (se_vS 2 (pv 2) rfl) se_int) (st_ne rfl hr.units (se_ix rfl (se_vS 0 (pv 0) rfl) (se_vS 2 (pv 2) rfl) (fun _ _ => rfl)) (se_vS 4 (pv 4) rfl))) (sss_one (ss_setS (sg_of (i := 2) (SE.le (SE.scal (se_ix rfl (se_vM 1 (pv 1) rfl) (SE.le (se_sub (se_vS 2 (pv 2) rfl) se_int) .vl) (fun _ _ => rfl))) .vs) sc_greatest_borders.nd rfl (Or.inl rfl)) rfl)))
  (sss_one (ss_iadd (i := 2) (Or.inl rfl) (se_int1 T.m_int (sa_cons (SE.le (se_eq rfl hr.units (se_ix rfl (se_vS 0 (pv 0) rfl) (se_vS 2 (pv 2) rfl) (fun _ _ => rfl)) (se_vS 4 (pv 4) rfl)) .vb) sa_nil)) sc_greatest_borders.nd rfl (Or.inl rfl)))) sss_nil)
  (sss_one (ss_app (i := 1) rfl (pv 1) rfl (SE.le (SE.scal (se_vS 2 (pv 2) rfl)) .vn)))))
  (sss_one (ss_ret (se_vM 1 (pv 1) rfl)))))))
theorem ok_laid_at (T : Tp K mg) : FnOk P w K mg base (L2N.CX P w) 1 T.f_laid_at T.d_laid_at ps_laid_at (spP K (cvK K) 2 F_laid_at) :=
  fn_P N_laid_at ps_laid_at 4 2 (cf_laid_at K mg) B_laid_at rfl rfl T.F_laid_at sc_laid_at rfl (fun i h1 => by
    match i, h1 with
    | 0, _ => exact rfl
    | 1, _ => exact rfl
    | i + 2, h => exact absurd h (by simp)) (fun cdv A outer s H E hr tk pw =>
  (sss_cons (ss_setS (sg_of (i := 2) (SE.le (se_len rfl T.m_len (sa_cons (se_vS 1 (pv 1) rfl) sa_nil)) .vs) sc_laid_at.nd rfl (Or.inr rfl)) rfl)
  (sss_one (ss_ret (SE.le (SE.flat (se_lc (c := .S) (own := [(Str.ofString "place", 3)]) rfl (own1 rfl) rfl sc_laid_at.nd (SI.w (si_range1 (by rfl) T.m_range (sa_cons (SE.le (se_add (se_sub (se_len rfl T.m_len (sa_cons (se_vS 0 (pv 0) rfl) sa_nil)) (se_vS 2 (pv 2) rfl)) se_int) .vb) sa_nil))) (blkOk_by (own := [(Str.ofString "place", 3)]) (N := N_laid_at) (sc := (defScope s_laid_at)) (by decide +kernel)) (fun _ _ _ _ _ => (sgt_name (i := 3) (is := [3]) List.mem_cons_self rfl sc_laid_at.nd rfl (Or.inl rfl))) (fun _ _ _ _ _ => (sts_one (st_eq rfl hr.units (se_sl rfl (se_vS 0 (pv 0) rfl) (so_some (se_vS 3 (pv 3) rfl)) (so_some (se_add (se_vS 3 (pv 3) rfl) (se_vS 2 (pv 2) rfl)))) (se_vS 1 (pv 1) rfl)))) (fun _ _ _ _ _ => (se_vS 3 (pv 3) rfl)))) .vl)))))
theorem ok__law_hand (T : Tp K mg) : FnOk P w K mg base (L2N.CX P w) 1 T.f__law_hand T.d__law_hand ps__law_hand (spP K (cvK K) 1 F__law_hand) :=
  fn_P N__law_hand ps__law_hand 1 1 (cf__law_hand K mg) B__law_hand rfl rfl T.F__law_hand sc__law_hand rfl (fun i h1 => by
    match i, h1 with
    | 0, _ => exact rfl
    | i + 1, h => exact absurd h (by simp)) (fun cdv A outer s H E hr tk pw =>
  (sss_one (ss_ret (SE.le (se_lst (sa_cons (se_max2 rfl T.m_max (sa_cons (SE.le se_int .vb) (sa_cons (SE.le (se_sub (se_vS 0 (pv 0) rfl) (se_pow se_int se_int)) .vb) sa_nil))) (sa_cons (se_mul (se_add (se_mod (se_vS 0 (pv 0) rfl) se_int) se_int) (se_int1 T.m_int (sa_cons (SE.le (se_ne rfl hr.units (se_vS 0 (pv 0) rfl) (se_pow se_int se_int)) .vb) sa_nil))) sa_nil))) .vl))))
theorem ok__law_take (T : Tp K mg) : FnOk P w K mg base (L2N.CX P w) 1 T.f__law_take T.d__law_take ps__law_take (spW K (cvK K) 2 F__law_take) :=
  fn_W N__law_take ps__law_take 3 2 (cf__law_take K mg) B__law_take rfl rfl T.F__law_take sc__law_take rfl rfl (fun i h1 h2 => by
    match i, h1, h2 with
    | 1, _, _ => exact rfl
    | i + 2, _, h => exact absurd h (by simp)) (fun cdv A outer s H E hr tk pw =>
  (sss_cons (ss_if (st_gt (se_ixW rfl (pv 0) rfl se_int (fun _ _ => rfl)) se_int) (sss_cons (ss_setN (sg_of (i := 2) (SE.le (se_mod (se_ixW rfl (pv 0) rfl se_int (fun _ _ => rfl)) (se_vS 1 (pv 1) rfl)) .vn) sc__law_take.nd rfl (Or.inl rfl)) rfl)
  (sss_cons (ss_putW (i := 0) (pv 0) rfl (SE.le (se_fdiv (se_ixW rfl (pv 0) rfl se_int (fun _ _ => rfl)) (se_vS 1 (pv 1) rfl)) .vb) (SE.le se_int .vb))
  (sss_one (ss_ret (SE.le (se_vN 2 (pv 2) rfl) .nl))))) sss_nil)
  (sss_cons (ss_putW (i := 0) (pv 0) rfl (SE.le (se_mod (se_mul (se_ixW rfl (pv 0) rfl se_int (fun _ _ => rfl)) se_int) se_int) .vb) (SE.le se_int .vb))
  (sss_one (ss_ret (SE.le (se_mod (se_fdiv (se_pow (se_add (se_ixW rfl (pv 0) rfl se_int (fun _ _ => rfl)) se_int) se_int) se_int) (se_vS 1 (pv 1) rfl)) .vl))))))
theorem ok__law_ends (T : Tp K mg) : FnOk P w K mg base (L2N.CX P w) 1 T.f__law_ends T.d__law_ends ps__law_ends (spP K (cvK K) 1 F__law_ends) :=
  fn_P N__law_ends ps__law_ends 2 1 (cf__law_ends K mg) B__law_ends rfl rfl T.F__law_ends sc__law_ends rfl (fun i h1 => by
    match i, h1 with
    | 0, _ => exact rfl
    | i + 1, h => exact absurd h (by simp)) (fun cdv A outer s H E hr tk pw =>
  (sss_one (ss_ret (SE.le (SE.flat (se_lc (c := .S) (own := [(Str.ofString "k", 1)]) rfl (own1 rfl) rfl sc__law_ends.nd (SI.w (si_range1 (by rfl) T.m_range (sa_cons (SE.le (se_len rfl T.m_len (sa_cons (se_vS 0 (pv 0) rfl) sa_nil)) .vb) sa_nil))) (blkOk_by (own := [(Str.ofString "k", 1)]) (N := N__law_ends) (sc := (defScope s__law_ends)) (by decide +kernel)) (fun _ _ _ _ _ => (sgt_name (i := 1) (is := [1]) List.mem_cons_self rfl sc__law_ends.nd rfl (Or.inl rfl))) (fun _ _ _ _ _ => (sts_one (st_eq rfl hr.units (se_sl rfl (se_vS 0 (pv 0) rfl) so_none (so_some (se_vS 1 (pv 1) rfl))) (se_sl rfl (se_vS 0 (pv 0) rfl) (so_some (se_sub (se_len rfl T.m_len (sa_cons (se_vS 0 (pv 0) rfl) sa_nil)) (se_vS 1 (pv 1) rfl))) so_none)))) (fun _ _ _ _ _ => (se_vS 1 (pv 1) rfl)))) .vl))))
theorem ok__law_common (T : Tp K mg) : FnOk P w K mg base (L2N.CX P w) 1 T.f__law_common T.d__law_common ps__law_common (spP K (cvK K) 2 F__law_common) :=
  fn_P N__law_common ps__law_common 2 2 (cf__law_common K mg) B__law_common rfl rfl T.F__law_common sc__law_common rfl (fun i h1 => by
    match i, h1 with
    | 0, _ => exact rfl
    | 1, _ => exact rfl
    | i + 2, h => exact absurd h (by simp)) (fun cdv A outer s H E hr tk pw =>
  (sss_cons (ss_while WFUEL pw (st_gt (se_vS 1 (pv 1) rfl) se_int) (sss_one (ss_par (i := 0) (j := 1) rfl rfl rfl sc__law_common.nd rfl rfl (by decide) rfl rfl (sa_cons (se_vS 1 (pv 1) rfl) (sa_cons (SE.le (se_mod (se_vS 0 (pv 0) rfl) (se_vS 1 (pv 1) rfl)) .vs) sa_nil)))))
  (sss_one (ss_ret (SE.le (SE.scal (se_vS 0 (pv 0) rfl)) .vl)))))
theorem ok_borders (T : Tp K mg) : FnOk P w K mg base (L2N.CX P w) 2 T.f_borders T.d_borders ps_borders (spP K (cvK K) 1 F_borders) :=
  fn_P N_borders ps_borders 4 1 (cf_borders K mg) B_borders rfl rfl T.F_borders sc_borders rfl (fun i h1 => by
    match i, h1 with
    | 0, _ => exact rfl
    | i + 1, h => exact absurd h (by simp)) (fun cdv A outer s H E hr tk pw =>
  (sss_cons (ss_expr (se_call rfl tk (ok_need_signs T) hr (by rfl) T.g_need_signs T.F_need_signs.kp T.b_need_signs (sa_cons (SE.le (se_vS 0 (pv 0) rfl) .sb) sa_nil) (fun _ _ _ => aLen_cons (fun _ _ _ => aLen_nil))))
  (sss_cons (ss_setM (sg_of (i := 1) (se_lst (c := .V) sa_nil) sc_borders.nd rfl (Or.inl rfl)) rfl)
  (sss_cons (ss_if (st_ne rfl hr.units (se_vS 0 (pv 0) rfl) (se_lst (c := .V) sa_nil)) (sss_cons (ss_setS (sg_of (i := 2) (SE.le (se_call rfl tk (ok_greatest_borders T) hr (by rfl) T.g_greatest_borders T.F_greatest_borders.kp T.b_greatest_borders (sa_cons (SE.le (se_vS 0 (pv 0) rfl) .sb) sa_nil) (fun _ _ _ => aLen_cons (fun _ _ _ => aLen_nil))) .vs) sc_borders.nd rfl (Or.inl rfl)) rfl)
  (sss_cons (ss_setS (sg_of (i := 3) (se_ix rfl (se_vS 2 (pv 2) rfl) (SE.le (se_neg se_int) .vs) (fun _ _ => rfl)) sc_borders.nd rfl (Or.inl rfl)) rfl)
  (sss_cons (ss_while WFUEL pw (st_gt (se_vS 3 (pv 3) rfl) se_int) (sss_cons (ss_app (i := 1) rfl (pv 1) rfl (SE.le (SE.scal (se_vS 3 (pv 3) rfl)) .vn))
  (sss_one (ss_setS (sg_of (i := 3) (se_ix rfl (se_vS 2 (pv 2) rfl) (SE.le (se_sub (se_vS 3 (pv 3) rfl) se_int) .vs) (fun _ _ => rfl)) sc_borders.nd rfl (Or.inl rfl)) rfl))))
  (sss_one (ss_app (i := 1) rfl (pv 1) rfl (SE.le se_int .vn)))))) sss_nil)
  (sss_one (ss_ret (se_rev rfl (se_vM 1 (pv 1) rfl))))))))
theorem ok_lies_at (T : Tp K mg) : FnOk P w K mg base (L2N.CX P w) 2 T.f_lies_at T.d_lies_at ps_lies_at (spP K (cvK K) 2 F_lies_at) :=
  fn_P N_lies_at ps_lies_at 2 2 (cf_lies_at K mg) B_lies_at rfl rfl T.F_lies_at sc_lies_at rfl (fun i h1 => by
    match i, h1 with
    | 0, _ => exact rfl
    | 1, _ => exact rfl
    | i + 2, h => exact absurd h (by simp)) (fun cdv A outer s H E hr tk pw =>
  (sss_cons (ss_expr (se_call rfl tk (ok_need_word T) hr (by rfl) T.g_need_word T.F_need_word.kp T.b_need_word (sa_cons (SE.le (se_vS 1 (pv 1) rfl) .sb) sa_nil) (fun _ _ _ => aLen_cons (fun _ _ _ => aLen_nil))))
  (sss_cons (ss_expr (se_call rfl tk (ok_need_signs T) hr (by rfl) T.g_need_signs T.F_need_signs.kp T.b_need_signs (sa_cons (SE.le (se_add (se_vS 0 (pv 0) rfl) (se_vS 1 (pv 1) rfl)) .sb) sa_nil) (fun _ _ _ => aLen_cons (fun _ _ _ => aLen_nil))))
  (sss_one (ss_ret (SE.le (se_call rfl tk (ok_laid_at T) hr (by rfl) T.g_laid_at T.F_laid_at.kp T.b_laid_at (sa_cons (SE.le (se_vS 0 (pv 0) rfl) .sb) (sa_cons (SE.le (se_vS 1 (pv 1) rfl) .sb) sa_nil)) (fun _ _ _ => aLen_cons (fun _ _ _ => aLen_cons (fun _ _ _ => aLen_nil)))) .vl))))))
theorem ok__law_letters (T : Tp K mg) : FnOk P w K mg base (L2N.CX P w) 2 T.f__law_letters T.d__law_letters ps__law_letters (spW K (cvK K) 1 F__law_letters) :=
  fn_W N__law_letters ps__law_letters 5 1 (cf__law_letters K mg) B__law_letters rfl rfl T.F__law_letters sc__law_letters rfl rfl (fun i h1 h2 => by
    match i, h1, h2 with
    | i + 1, _, h => exact absurd h (by simp)) (fun cdv A outer s H E hr tk pw =>
  (sss_cons (ss_setS (sg_of (i := 1) (SE.le se_str .vs) sc__law_letters.nd rfl (Or.inl rfl)) rfl)
  (sss_cons (ss_setN (sg_of (i := 2) (SE.le se_str .vn) sc__law_letters.nd rfl (Or.inl rfl)) rfl)
  (sss_cons (ss_for pw rfl (si_range1 (by rfl) T.m_range (sa_cons (SE.le (se_ix rfl (se_lst (sa_cons se_int (sa_cons se_int (sa_cons se_int (sa_cons se_int sa_nil))))) (se_callW rfl tk (ok__law_take T) hr (by rfl) T.g__law_take T.F__law_take.kp T.b__law_take rfl (pv 0) (sa_cons (SE.le se_int .vb) sa_nil) (aLen1 (fun _ _ _ => aLen_cons (fun _ _ _ => aLen_nil)))) (fun _ _ => rfl)) .vb) sa_nil)) (sgt_name (i := 3) (is := [3]) List.mem_cons_self rfl sc__law_letters.nd rfl (Or.inl rfl)) (sss_cons (ss_setS (sg_of (i := 4) (SE.le (se_callW rfl tk (ok__law_take T) hr (by rfl) T.g__law_take T.F__law_take.kp T.b__law_take rfl (pv 0) (sa_cons (SE.le (se_len rfl T.m_len (sa_cons (se_vS 1 (pv 1) rfl) sa_nil)) .vb) sa_nil) (aLen1 (fun _ _ _ => aLen_cons (fun _ _ _ => aLen_nil)))) .vs) sc__law_letters.nd rfl (Or.inl rfl)) rfl)
  (sss_cons (ss_setN (sg_of (i := 2) (SE.le (SE.flat (se_add (SE.le (se_vN 2 (pv 2) rfl) .ns) (se_ix rfl (se_vS 1 (pv 1) rfl) (se_vS 4 (pv 4) rfl) (fun _ _ => rfl)))) .vn) sc__law_letters.nd rfl (Or.inl rfl)) rfl)
  (sss_one (ss_setS (sg_of (i := 1) (se_add (se_sl rfl (se_vS 1 (pv 1) rfl) so_none (so_some (se_vS 4 (pv 4) rfl))) (se_sl rfl (se_vS 1 (pv 1) rfl) (so_some (se_add (se_vS 4 (pv 4) rfl) (SE.le se_int .vs))) so_none)) sc__law_letters.nd rfl (Or.inl rfl)) rfl)))))
  (sss_one (ss_ret (SE.le (se_vN 2 (pv 2) rfl) .nl)))))))
theorem ok__law_signs (T : Tp K mg) : FnOk P w K mg base (L2N.CX P w) 2 T.f__law_signs T.d__law_signs ps__law_signs (spW K (cvK K) 3 F__law_signs) :=
  fn_W N__law_signs ps__law_signs 4 3 (cf__law_signs K mg) B__law_signs rfl rfl T.F__law_signs sc__law_signs rfl rfl (fun i h1 h2 => by
    match i, h1, h2 with
    | 1, _, _ => exact rfl
    | 2, _, _ => exact rfl
    | i + 3, _, h => exact absurd h (by simp)) (fun cdv A outer s H E hr tk pw =>
  (sss_one (ss_ret (SE.le (SE.flat (se_lc (c := .S) (own := [(Str.ofString "k", 3)]) rfl (own1 rfl) rfl sc__law_signs.nd (SI.w (si_range1 (by rfl) T.m_range (sa_cons (SE.le (se_vS 2 (pv 2) rfl) .sb) sa_nil))) (blkOk_by (own := [(Str.ofString "k", 3)]) (N := N__law_signs) (sc := (defScope s__law_signs)) (by decide +kernel)) (fun _ _ _ _ _ => (sgt_name (i := 3) (is := [3]) List.mem_cons_self rfl sc__law_signs.nd rfl (Or.inl rfl))) (fun _ _ _ _ _ => sts_nil) (fun _ _ _ _ _ => (se_ix rfl (se_vS 1 (pv 1) rfl) (SE.le (se_callW rfl takes0N (ok__law_take T) hr (by rfl) T.g__law_take T.F__law_take.kp T.b__law_take rfl (pv 0) (sa_cons (SE.le (se_len rfl T.m_len (sa_cons (se_vS 1 (pv 1) rfl) sa_nil)) .vb) sa_nil) (aLen1 (fun _ _ _ => aLen_cons (fun _ _ _ => aLen_nil)))) .vs) (fun _ _ => rfl))))) .vl))))
theorem ok__law_laid (T : Tp K mg) : FnOk P w K mg base (L2N.CX P w) 2 T.f__law_laid T.d__law_laid ps__law_laid (spW K (cvK K) 3 F__law_laid) :=
  fn_W N__law_laid ps__law_laid 7 3 (cf__law_laid K mg) B__law_laid rfl rfl T.F__law_laid sc__law_laid rfl rfl (fun i h1 h2 => by
    match i, h1, h2 with
    | 1, _, _ => exact rfl
    | 2, _, _ => exact rfl
    | i + 3, _, h => exact absurd h (by simp)) (fun cdv A outer s H E hr tk pw =>
  (sss_cons (ss_setN (sg_of (i := 3) (SE.le (SE.flat (se_list1 rfl T.m_list (sa_cons (se_vS 1 (pv 1) rfl) sa_nil))) .vn) sc__law_laid.nd rfl (Or.inl rfl)) rfl)
  (sss_cons (ss_setS (sg_of (i := 4) (SE.le (se_call rfl tk (ok__law_ends T) hr (by rfl) T.g__law_ends T.F__law_ends.kp T.b__law_ends (sa_cons (SE.le (se_vS 1 (pv 1) rfl) .sb) sa_nil) (fun _ _ _ => aLen_cons (fun _ _ _ => aLen_nil))) .vs) sc__law_laid.nd rfl (Or.inl rfl)) rfl)
  (sss_cons (ss_for pw rfl (si_range1 (by rfl) T.m_range (sa_cons (SE.le (se_add se_int (se_callW rfl tk (ok__law_take T) hr (by rfl) T.g__law_take T.F__law_take.kp T.b__law_take rfl (pv 0) (sa_cons (SE.le se_int .vb) sa_nil) (aLen1 (fun _ _ _ => aLen_cons (fun _ _ _ => aLen_nil))))) .vb) sa_nil)) (sgt_name (i := 5) (is := [5]) List.mem_cons_self rfl sc__law_laid.nd rfl (Or.inl rfl)) (sss_cons (ss_setS (sg_of (i := 6) (se_ix rfl (se_vS 4 (pv 4) rfl) (SE.le (se_callW rfl tk (ok__law_take T) hr (by rfl) T.g__law_take T.F__law_take.kp T.b__law_take rfl (pv 0) (sa_cons (SE.le (se_len rfl T.m_len (sa_cons (se_vS 4 (pv 4) rfl) sa_nil)) .vb) sa_nil) (aLen1 (fun _ _ _ => aLen_cons (fun _ _ _ => aLen_nil)))) .vs) (fun _ _ => rfl)) sc__law_laid.nd rfl (Or.inl rfl)) rfl)
  (sss_one (ss_if (st_le (se_sub (se_add (se_len rfl T.m_len (sa_cons (se_vN 3 (pv 3) rfl) sa_nil)) (se_len rfl T.m_len (sa_cons (se_vS 1 (pv 1) rfl) sa_nil))) (se_vS 6 (pv 6) rfl)) (se_vS 2 (pv 2) rfl)) (sss_one (ss_setN (sg_of (i := 3) (SE.le (SE.flat (se_add (SE.le (se_vN 3 (pv 3) rfl) .ns) (se_sl rfl (se_vS 1 (pv 1) rfl) (so_some (se_vS 6 (pv 6) rfl)) so_none))) .vn) sc__law_laid.nd rfl (Or.inl rfl)) rfl)) sss_nil))))
  (sss_one (ss_ret (SE.le (se_vN 3 (pv 3) rfl) .nl)))))))
theorem ok__law_renamed (T : Tp K mg) : FnOk P w K mg base (L2N.CX P w) 2 T.f__law_renamed T.d__law_renamed ps__law_renamed (spW K (cvK K) 1 F__law_renamed_v3) :=
  fn_W N__law_renamed ps__law_renamed 3 1 (cf__law_renamed K mg) B__law_renamed_v3 rfl rfl T.F__law_renamed sc__law_renamed rfl rfl (fun i h1 h2 => by
    match i, h1, h2 with
    | i + 1, _, h => exact absurd h (by simp)) (fun cdv A outer s H E hr tk pw =>
  (sss_cons (ss_setW (sg_of (i := 1) (se_list1 rfl T.m_list (sa_cons se_str sa_nil)) sc__law_renamed.nd rfl (Or.inr rfl)) rfl (by decide))
  (sss_one (ss_ret (SE.le (se_dictP rfl rfl T.m_dict (sa_cons (se_lc (c := .V) (own := [(Str.ofString "sign", 2)]) rfl (own1 rfl) rfl sc__law_renamed.nd (SI.w (si_str se_str)) (blkOk_by (own := [(Str.ofString "sign", 2)]) (N := N__law_renamed) (sc := (defScope s__law_renamed)) (by decide +kernel)) (fun _ _ _ _ _ => (sgt_name (i := 2) (is := [2]) List.mem_cons_self rfl sc__law_renamed.nd rfl (Or.inl rfl))) (fun _ _ _ _ _ => sts_nil) (fun _ _ _ _ _ => (se_tup (sa_cons (SE.scal (se_vS 2 (pv 2) rfl)) (sa_cons (se_popW rfl (pv 1) rfl (se_callW rfl takes0N (ok__law_take T) hr (by rfl) T.g__law_take T.F__law_take.kp T.b__law_take rfl (pv 0) (sa_cons (SE.le (se_lenW rfl T.m_len (pv 1) rfl) .vb) sa_nil) (aLen1 (fun _ _ _ => aLen_cons (fun _ _ _ => aLen_nil))))) sa_nil))))) sa_nil)) .vl)))))
theorem ok_periods (T : Tp K mg) : FnOk P w K mg base (L2N.CX P w) 3 T.f_periods T.d_periods ps_periods (spP K (cvK K) 1 F_periods) :=
  fn_P N_periods ps_periods 2 1 (cf_periods K mg) B_periods rfl rfl T.F_periods sc_periods rfl (fun i h1 => by
    match i, h1 with
    | 0, _ => exact rfl
    | i + 1, h => exact absurd h (by simp)) (fun cdv A outer s H E hr tk pw =>
  (sss_one (ss_ret (SE.le (se_lc (c := .V) (own := [(Str.ofString "border", 1)]) rfl (own1 rfl) rfl sc_periods.nd (SI.w (si_list rfl (SE.le (se_rev rfl (se_call rfl tk (ok_borders T) hr (by rfl) T.g_borders T.F_borders.kp T.b_borders (sa_cons (SE.le (se_vS 0 (pv 0) rfl) .sb) sa_nil) (fun _ _ _ => aLen_cons (fun _ _ _ => aLen_nil)))) .vs))) (blkOk_by (own := [(Str.ofString "border", 1)]) (N := N_periods) (sc := (defScope s_periods)) (by decide +kernel)) (fun _ _ _ _ _ => (sgt_name (i := 1) (is := [1]) List.mem_cons_self rfl sc_periods.nd rfl (Or.inl rfl))) (fun _ _ _ _ _ => sts_nil) (fun _ _ _ _ _ => (se_sub (se_len rfl T.m_len (sa_cons (se_vS 0 (pv 0) rfl) sa_nil)) (se_vS 1 (pv 1) rfl)))) .vl))))
theorem ok__law_text (T : Tp K mg) : FnOk P w K mg base (L2N.CX P w) 3 T.f__law_text T.d__law_text ps__law_text (spW K (cvK K) 2 F__law_text) :=
  fn_W N__law_text ps__law_text 7 2 (cf__law_text K mg) B__law_text rfl rfl T.F__law_text sc__law_text rfl rfl (fun i h1 h2 => by
    match i, h1, h2 with
    | 1, _, _ => exact rfl
    | i + 2, _, h => exact absurd h (by simp)) (fun cdv A outer s H E hr tk pw =>
  (sss_cons (ss_setS (sg_of (i := 2) (SE.le (se_ix rfl (se_lst (sa_cons se_int (sa_cons se_int sa_nil))) (se_int1 T.m_int (sa_cons (SE.le (se_eq rfl hr.units (se_callW rfl tk (ok__law_take T) (hr.mono (by decide : 1 ≤ 2)) (by rfl) T.g__law_take T.F__law_take.kp T.b__law_take rfl (pv 0) (sa_cons (SE.le se_int .vb) sa_nil) (aLen1 (fun _ _ _ => aLen_cons (fun _ _ _ => aLen_nil)))) se_int) .vb) sa_nil)) (fun _ _ => rfl)) .vs) sc__law_text.nd rfl (Or.inl rfl)) rfl)
  (sss_cons (ss_if (st_eq rfl hr.units (se_callW rfl tk (ok__law_take T) (hr.mono (by decide : 1 ≤ 2)) (by rfl) T.g__law_take T.F__law_take.kp T.b__law_take rfl (pv 0) (sa_cons (SE.le se_int .vb) sa_nil) (aLen1 (fun _ _ _ => aLen_cons (fun _ _ _ => aLen_nil)))) se_int) (sss_one (ss_ret (SE.le (se_callW rfl tk (ok__law_signs T) hr (by rfl) T.g__law_signs T.F__law_signs.kp T.b__law_signs rfl (pv 0) (sa_cons (SE.le (se_vS 1 (pv 1) rfl) .sb) (sa_cons (SE.le (se_callW rfl tk (ok__law_take T) (hr.mono (by decide : 1 ≤ 2)) (by rfl) T.g__law_take T.F__law_take.kp T.b__law_take rfl (pv 0) (sa_cons (SE.le (se_add (se_vS 2 (pv 2) rfl) (SE.le se_int .vs)) .sb) sa_nil) (aLen1 (fun _ _ _ => aLen_cons (fun _ _ _ => aLen_nil)))) .vb) sa_nil)) (aLen1 (fun _ _ _ => aLen_cons (fun _ _ _ => aLen_cons (fun _ _ _ => aLen_nil))))) .vl))) sss_nil)
  (sss_cons (ss_setM (sg_of (i := 3) (se_callW rfl tk (ok__law_signs T) hr (by rfl) T.g__law_signs T.F__law_signs.kp T.b__law_signs rfl (pv 0) (sa_cons (SE.le (se_vS 1 (pv 1) rfl) .sb) (sa_cons (SE.le (se_add se_int (se_callW rfl tk (ok__law_take T) (hr.mono (by decide : 1 ≤ 2)) (by rfl) T.g__law_take T.F__law_take.kp T.b__law_take rfl (pv 0) (sa_cons (SE.le se_int .vb) sa_nil) (aLen1 (fun _ _ _ => aLen_cons (fun _ _ _ => aLen_nil))))) .vb) sa_nil)) (aLen1 (fun _ _ _ => aLen_cons (fun _ _ _ => aLen_cons (fun _ _ _ => aLen_nil))))) sc__law_text.nd rfl (Or.inl rfl)) rfl)
  (sss_cons (ss_for pw rfl (si_range1 (by rfl) T.m_range (sa_cons (SE.le (se_add se_int (se_callW rfl tk (ok__law_take T) (hr.mono (by decide : 1 ≤ 2)) (by rfl) T.g__law_take T.F__law_take.kp T.b__law_take rfl (pv 0) (sa_cons (SE.le se_int .vb) sa_nil) (aLen1 (fun _ _ _ => aLen_cons (fun _ _ _ => aLen_nil))))) .vb) sa_nil)) (sgt_name (i := 4) (is := [4]) List.mem_cons_self rfl sc__law_text.nd rfl (Or.inl rfl)) (sss_one (ss_setM (sg_of (i := 3) (se_callW rfl tk (ok__law_laid T) hr (by rfl) T.g__law_laid T.F__law_laid.kp T.b__law_laid rfl (pv 0) (sa_cons (SE.le (se_vM 3 (pv 3) rfl) .lb) (sa_cons (SE.le (se_vS 2 (pv 2) rfl) .sb) sa_nil)) (aLen1 (fun _ _ _ => aLen_cons (fun _ _ _ => aLen_cons (fun _ _ _ => aLen_nil))))) sc__law_text.nd rfl (Or.inl rfl)) rfl)))
  (sss_cons (ss_setS (sg_of (i := 5) (SE.le (se_callW rfl tk (ok__law_take T) (hr.mono (by decide : 1 ≤ 2)) (by rfl) T.g__law_take T.F__law_take.kp T.b__law_take rfl (pv 0) (sa_cons (SE.le se_int .vb) sa_nil) (aLen1 (fun _ _ _ => aLen_cons (fun _ _ _ => aLen_nil)))) .vs) sc__law_text.nd rfl (Or.inl rfl)) rfl)
  (sss_cons (ss_setS (sg_of (i := 6) (SE.le (se_callW rfl tk (ok__law_take T) (hr.mono (by decide : 1 ≤ 2)) (by rfl) T.g__law_take T.F__law_take.kp T.b__law_take rfl (pv 0) (sa_cons (SE.le (se_len rfl T.m_len (sa_cons (se_vM 3 (pv 3) rfl) sa_nil)) .vb) sa_nil) (aLen1 (fun _ _ _ => aLen_cons (fun _ _ _ => aLen_nil)))) .vs) sc__law_text.nd rfl (Or.inl rfl)) rfl)
  (sss_cons (ss_if (st_eq rfl hr.units (se_vS 5 (pv 5) rfl) se_int) (sss_one (ss_putM (i := 3) (pv 3) rfl (SE.le (SE.scal (se_ix rfl (se_vS 1 (pv 1) rfl) (SE.le (se_callW rfl tk (ok__law_take T) (hr.mono (by decide : 1 ≤ 2)) (by rfl) T.g__law_take T.F__law_take.kp T.b__law_take rfl (pv 0) (sa_cons (SE.le (se_len rfl T.m_len (sa_cons (se_vS 1 (pv 1) rfl) sa_nil)) .vb) sa_nil) (aLen1 (fun _ _ _ => aLen_cons (fun _ _ _ => aLen_nil)))) .vs) (fun _ _ => rfl))) .vn) (se_vS 6 (pv 6) rfl))) sss_nil)
  (sss_one (ss_ret (se_ix rfl (se_lst (sa_cons (se_vM 3 (pv 3) rfl) (sa_cons (se_vM 3 (pv 3) rfl) (sa_cons (se_sl rfl (se_vM 3 (pv 3) rfl) so_none (so_some (se_add (se_vS 6 (pv 6) rfl) (SE.le se_int .vs)))) (sa_cons (se_sl rfl (se_vM 3 (pv 3) rfl) (so_some (se_vS 6 (pv 6) rfl)) so_none) (sa_cons (se_vM 3 (pv 3) rfl) sa_nil)))))) (SE.le (SE.scal (se_vS 5 (pv 5) rfl)) .vl) (fun _ _ => rfl))))))))))))
theorem ok__law_right (T : Tp K mg) : FnOk P w K mg base (L2N.CX P w) 4 T.f__law_right T.d__law_right ps__law_right (spW K (cvK K) 2 F__law_right_v33) :=
  fn_W N__law_right ps__law_right 14 2 (cf__law_right K mg) B__law_right_v33 rfl rfl T.F__law_right sc__law_right rfl rfl (fun i h1 h2 => by
    match i, h1, h2 with
    | 1, _, _ => exact rfl
    | i + 2, _, h => exact absurd h (by simp)) (fun cdv A outer s H E hr tk pw =>
  (sss_cons (ss_setS (sg_of (i := 2) (SE.le (se_call rfl tk (ok_borders T) (hr.mono (by decide : 2 ≤ 3)) (by rfl) T.g_borders T.F_borders.kp T.b_borders (sa_cons (SE.le (se_vS 1 (pv 1) rfl) .sb) sa_nil) (fun _ _ _ => aLen_cons (fun _ _ _ => aLen_nil))) .vs) sc__law_right.nd rfl (Or.inl rfl)) rfl)
  (sss_cons (ss_setS (sg_of (i := 3) (SE.le (se_call rfl tk (ok_periods T) hr (by rfl) T.g_periods T.F_periods.kp T.b_periods (sa_cons (SE.le (se_vS 1 (pv 1) rfl) .sb) sa_nil) (fun _ _ _ => aLen_cons (fun _ _ _ => aLen_nil))) .vs) sc__law_right.nd rfl (Or.inl rfl)) rfl)
  (sss_cons (ss_setS (sg_of (i := 4) (SE.le (se_len rfl T.m_len (sa_cons (se_vS 1 (pv 1) rfl) sa_nil)) .vs) sc__law_right.nd rfl (Or.inr rfl)) rfl)
  (sss_cons (ss_if (st_ne rfl hr.units (se_vS 3 (pv 3) rfl) (se_lc (c := .V) (own := [(Str.ofString "border", 7)]) rfl (own1 rfl) rfl sc__law_right.nd (SI.w (si_list rfl (se_rev rfl (se_vS 2 (pv 2) rfl)))) (blkOk_by (own := [(Str.ofString "border", 7)]) (N := N__law_right) (sc := (defScope s__law_right)) (by decide +kernel)) (fun _ _ _ _ _ => (sgt_name (i := 7) (is := [7]) List.mem_cons_self rfl sc__law_right.nd rfl (Or.inl rfl))) (fun _ _ _ _ _ => sts_nil) (fun _ _ _ _ _ => (se_sub (se_vS 4 (pv 4) rfl) (se_vS 7 (pv 7) rfl))))) (sss_one (ss_ret (SE.le se_bl .vl))) sss_nil)
  (sss_cons (ss_if (st_ne rfl hr.units (se_add (se_sl rfl (se_vS 2 (pv 2) rfl) so_none (so_some se_int)) (se_sl rfl (se_vS 3 (pv 3) rfl) (so_some (se_neg se_int)) so_none)) (se_sl rfl (se_lst (sa_cons (SE.le se_int .vs) (sa_cons (se_vS 4 (pv 4) rfl) sa_nil))) so_none (so_some (se_mul se_int (se_int1 T.m_int (sa_cons (SE.le (se_gt (se_vS 4 (pv 4) rfl) se_int) .vb) sa_nil)))))) (sss_one (ss_ret (SE.le se_bl .vl))) sss_nil)
  (sss_cons (ss_if (st_and3 (st_gt (se_vS 4 (pv 4) rfl) se_int) (st_gt (se_ix rfl (se_vS 2 (pv 2) rfl) (SE.le (se_neg se_int) .vs) (fun _ _ => rfl)) se_int) (st_ne rfl hr.units (se_call rfl tk (ok_borders T) (hr.mono (by decide : 2 ≤ 3)) (by rfl) T.g_borders T.F_borders.kp T.b_borders (sa_cons (SE.le (se_sl rfl (se_vS 1 (pv 1) rfl) so_none (so_some (se_ix rfl (se_vS 2 (pv 2) rfl) (SE.le (se_neg se_int) .vs) (fun _ _ => rfl)))) .sb) sa_nil) (fun _ _ _ => aLen_cons (fun _ _ _ => aLen_nil))) (se_sl rfl (se_vS 2 (pv 2) rfl) so_none (so_some (se_neg se_int))))) (sss_one (ss_ret (SE.le se_bl .vl))) sss_nil)
  (sss_cons (ss_for pw rfl (si_list rfl (se_vS 3 (pv 3) rfl)) (sgt_name (i := 5) (is := [5]) List.mem_cons_self rfl sc__law_right.nd rfl (Or.inl rfl)) (sss_one (ss_for pw rfl (si_list rfl (se_vS 3 (pv 3) rfl)) (sgt_name (i := 10) (is := [10]) List.mem_cons_self rfl sc__law_right.nd rfl (Or.inl rfl)) (sss_one (ss_if (st_and2 (st_le (se_add (se_vS 5 (pv 5) rfl) (se_vS 10 (pv 10) rfl)) (se_vS 4 (pv 4) rfl)) (st_notIn rfl (se_call rfl tk (ok__law_common T) (hr.mono (by decide : 1 ≤ 3)) (by rfl) T.g__law_common T.F__law_common.kp T.b__law_common (sa_cons (SE.le (se_vS 5 (pv 5) rfl) .sb) (sa_cons (SE.le (se_vS 10 (pv 10) rfl) .sb) sa_nil)) (fun _ _ _ => aLen_cons (fun _ _ _ => aLen_cons (fun _ _ _ => aLen_nil)))) (se_vS 3 (pv 3) rfl))) (sss_one (ss_ret (SE.le se_bl .vl))) sss_nil)))))
  (sss_cons (ss_setS (sg_of (i := 6) (SE.le (se_callW rfl tk (ok__law_renamed T) (hr.mono (by decide : 2 ≤ 3)) (by rfl) T.g__law_renamed T.F__law_renamed.kp T.b__law_renamed rfl (pv 0) sa_nil (aLen1 (fun _ _ _ => aLen_nil))) .vs) sc__law_right.nd rfl (Or.inr rfl)) rfl)
  (sss_cons (ss_if (st_or2 (st_ne rfl hr.units (se_call rfl tk (ok_borders T) (hr.mono (by decide : 2 ≤ 3)) (by rfl) T.g_borders T.F_borders.kp T.b_borders (sa_cons (SE.le (se_rev rfl (se_vS 1 (pv 1) rfl)) .sb) sa_nil) (fun _ _ _ => aLen_cons (fun _ _ _ => aLen_nil))) (se_vS 2 (pv 2) rfl)) (st_ne rfl hr.units (se_call rfl tk (ok_periods T) hr (by rfl) T.g_periods T.F_periods.kp T.b_periods (sa_cons (SE.le (se_lc (c := .S) (own := [(Str.ofString "sign", 13)]) rfl (own1 rfl) rfl sc__law_right.nd (SI.w (si_list rfl (se_vS 1 (pv 1) rfl))) (blkOk_by (own := [(Str.ofString "sign", 13)]) (N := N__law_right) (sc := (defScope s__law_right)) (by decide +kernel)) (fun _ _ _ _ _ => (sgt_name (i := 13) (is := [13]) List.mem_cons_self rfl sc__law_right.nd rfl (Or.inl rfl))) (fun _ _ _ _ _ => sts_nil) (fun _ _ _ _ _ => (se_dix hr.units (se_vS 6 (pv 6) rfl) (se_vS 13 (pv 13) rfl)))) .sb) sa_nil) (fun _ _ _ => aLen_cons (fun _ _ _ => aLen_nil))) (se_vS 3 (pv 3) rfl))) (sss_one (ss_ret (SE.le se_bl .vl))) sss_nil)
  (sss_cons (ss_for pw rfl (si_list rfl (se_sl rfl (se_vS 2 (pv 2) rfl) (so_some se_int) so_none)) (sgt_name (i := 7) (is := [7]) List.mem_cons_self rfl sc__law_right.nd rfl (Or.inl rfl)) (sss_cons (ss_setS (sg_of (i := 11) (SE.le (se_call rfl tk (ok_lies_at T) (hr.mono (by decide : 2 ≤ 3)) (by rfl) T.g_lies_at T.F_lies_at.kp T.b_lies_at (sa_cons (SE.le (se_vS 1 (pv 1) rfl) .sb) (sa_cons (SE.le (se_sl rfl (se_vS 1 (pv 1) rfl) so_none (so_some (se_vS 7 (pv 7) rfl))) .sb) sa_nil)) (fun _ _ _ => aLen_cons (fun _ _ _ => aLen_cons (fun _ _ _ => aLen_nil)))) .vs) sc__law_right.nd rfl (Or.inl rfl)) rfl)
  (sss_cons (ss_if (st_or2 (st_ne rfl hr.units (se_ix rfl (se_vS 11 (pv 11) rfl) (SE.le se_int .vs) (fun _ _ => rfl)) se_int) (st_ne rfl hr.units (se_ix rfl (se_vS 11 (pv 11) rfl) (SE.le (se_neg se_int) .vs) (fun _ _ => rfl)) (se_sub (se_vS 4 (pv 4) rfl) (se_vS 7 (pv 7) rfl)))) (sss_one (ss_ret (SE.le se_bl .vl))) sss_nil)
  (sss_one (ss_if (st_notIn rfl (se_sub (se_vS 7 (pv 7) rfl) se_int) (se_call rfl tk (ok_borders T) (hr.mono (by decide : 2 ≤ 3)) (by rfl) T.g_borders T.F_borders.kp T.b_borders (sa_cons (SE.le (se_sl rfl (se_vS 1 (pv 1) rfl) so_none (so_some (se_neg se_int))) .sb) sa_nil) (fun _ _ _ => aLen_cons (fun _ _ _ => aLen_nil)))) (sss_one (ss_ret (SE.le se_bl .vl))) sss_nil)))))
  (sss_cons (ss_if (st_eq rfl hr.units (se_vS 4 (pv 4) rfl) se_int) (sss_one (ss_ret (SE.le se_bl .vl))) sss_nil)
  (sss_cons (ss_setS (sg_lc (i := 8) (c := .S) (own := [(Str.ofString "place", 12)]) rfl (own1 rfl) rfl sc__law_right.nd rfl rfl (sw_true rfl rfl rfl (by decide +kernel)) (SI.w (si_list rfl (SE.le (se_call rfl tk (ok_lies_at T) (hr.mono (by decide : 2 ≤ 3)) (by rfl) T.g_lies_at T.F_lies_at.kp T.b_lies_at (sa_cons (SE.le (se_add (se_vS 1 (pv 1) rfl) (se_vS 1 (pv 1) rfl)) .sb) (sa_cons (SE.le (se_vS 1 (pv 1) rfl) .sb) sa_nil)) (fun _ _ _ => aLen_cons (fun _ _ _ => aLen_cons (fun _ _ _ => aLen_nil)))) .vs))) (blkOk_by (own := [(Str.ofString "place", 12)]) (N := N__law_right) (sc := (defScope s__law_right)) (by decide +kernel)) (fun _ _ _ _ _ => (sgt_name (i := 12) (is := [12]) List.mem_cons_self rfl sc__law_right.nd rfl (Or.inl rfl))) (fun _ _ _ _ _ => (sts_one (st_lt (se_vS 12 (pv 12) rfl) (se_vS 4 (pv 4) rfl)))) (fun _ _ _ _ _ => (se_vS 12 (pv 12) rfl))) rfl)
  (sss_cons (ss_setS (sg_of (i := 9) (SE.le (se_min1 rfl rfl T.m_min (sa_cons (SE.le (se_lc (c := .S) (own := [(Str.ofString "one", 5)]) rfl (own1 rfl) rfl sc__law_right.nd (SI.w (si_list rfl (se_vS 3 (pv 3) rfl))) (blkOk_by (own := [(Str.ofString "one", 5)]) (N := N__law_right) (sc := (defScope s__law_right)) (by decide +kernel)) (fun _ _ _ _ _ => (sgt_name (i := 5) (is := [5]) List.mem_cons_self rfl sc__law_right.nd rfl (Or.inl rfl))) (fun _ _ _ _ _ => (sts_one (st_eq rfl hr.units (se_mod (se_vS 4 (pv 4) rfl) (se_vS 5 (pv 5) rfl)) se_int))) (fun _ _ _ _ _ => (se_vS 5 (pv 5) rfl))) .sb) sa_nil)) .vs) sc__law_right.nd rfl (Or.inl rfl)) rfl)
  (sss_one (ss_ret (SE.le (se_and (se_eq rfl hr.units (se_call rfl tk (ok_lies_at T) (hr.mono (by decide : 2 ≤ 3)) (by rfl) T.g_lies_at T.F_lies_at.kp T.b_lies_at (sa_cons (SE.le (se_vS 1 (pv 1) rfl) .sb) (sa_cons (SE.le (se_vS 1 (pv 1) rfl) .sb) sa_nil)) (fun _ _ _ => aLen_cons (fun _ _ _ => aLen_cons (fun _ _ _ => aLen_nil)))) (se_lst (sa_cons se_int sa_nil))) (se_one (se_eq rfl hr.units (se_vS 8 (pv 8) rfl) (se_lrg3 rfl T.m_list T.m_range (sa_cons (SE.le se_int .vs) (sa_cons (se_vS 4 (pv 4) rfl) (sa_cons (se_vS 9 (pv 9) rfl) sa_nil))))))) .vl)))))))))))))))))
theorem ok_law (T : Tp K mg) : FnOk P w K mg base CX0 5 T.f_law T.d_law ps_law (spLaw K F_law_k04) :=
  fn_law N_law 3 (cf_law K mg) B_law_k04 rfl T.F_law sc_law rfl rfl (fun cdv A outer s H E hr =>
  (sss_cons (ss_for PassesOwn.never rfl (si_list rfl (SE.le (se_add (se_lst (sa_cons (se_pow se_int se_int) sa_nil)) (se_slQ rfl (pv 0) rfl so_none (so_some se_int))) .vs)) (sgt_name (i := 1) (is := [1]) List.mem_cons_self rfl sc_law.nd rfl (Or.inl rfl)) (sss_cons (ss_setW (sg_of (i := 2) (se_call rfl takes0N (ok__law_hand T) (hr.mono (by decide : 1 ≤ 4)) (by rfl) T.g__law_hand T.F__law_hand.kp T.b__law_hand (sa_cons (SE.le (se_vS 1 (pv 1) rfl) .sb) sa_nil) (fun _ _ _ => aLen_cons (fun _ _ _ => aLen_nil))) sc_law.nd rfl (Or.inl rfl)) rfl (by decide))
  (sss_one (ss_if (st_not (st_val (se_callW rfl takes0N (ok__law_right T) hr (by rfl) T.g__law_right T.F__law_right.kp T.b__law_right rfl (pv 2) (sa_cons (SE.le (se_sl rfl (se_callW rfl takes0N (ok__law_text T) (hr.mono (by decide : 3 ≤ 4)) (by rfl) T.g__law_text T.F__law_text.kp T.b__law_text rfl (pv 2) (sa_cons (SE.le (se_callW rfl takes0N (ok__law_letters T) (hr.mono (by decide : 2 ≤ 4)) (by rfl) T.g__law_letters T.F__law_letters.kp T.b__law_letters rfl (pv 2) sa_nil (aLen1 (fun _ _ _ => aLen_nil))) .vb) sa_nil) (aLen1 (fun _ _ _ => aLen_cons (fun _ _ _ => aLen_nil)))) so_none (so_some se_int)) .vb) sa_nil) (aLen1 (fun _ _ _ => aLen_cons (fun _ _ _ => aLen_nil)))))) (sss_one (ss_ret (SE.le se_bl .vl))) sss_nil))))
  (sss_one (ss_ret (SE.le se_bl .vl)))))
end
theorem all_mk {l : PySem.W.OpenLaw} {w : World} {K : PySem.W.Frag} {h : Heap} {mg : Str → Option Value} {fa : Addr} {f0 f1 f2 f3 f4 f5 f6 f7 f8 f9 f10 f11 f12 f13 f14 f15 f16 f17 : Addr} {od0 an0 od1 an1 od2 an2 od3 an3 od4 an4 od5 an5 od6 an6 od7 an7 od8 an8 od9 an9 od10 an10 od11 an11 od12 an12 od13 an13 od14 an14 od15 an15 od16 an16 od17 an17 : Option Addr} {sl0 sl1 sl2 sl3 sl4 sl5 sl6 sl7 sl8 sl9 sl10 sl11 sl12 sl13 sl14 sl15 sl16 sl17 : Array (Option Value)} {oc0 kV0 dc0 pm0 cd0 ct0 oc1 kV1 dc1 pm1 cd1 ct1 oc2 kV2 dc2 pm2 cd2 ct2 oc3 kV3 dc3 pm3 cd3 ct3 oc4 kV4 dc4 pm4 cd4 ct4 oc5 kV5 dc5 pm5 cd5 ct5 oc6 kV6 dc6 pm6 cd6 ct6 oc7 kV7 dc7 pm7 cd7 ct7 oc8 kV8 dc8 pm8 cd8 ct8 oc9 kV9 dc9 pm9 cd9 ct9 oc10 kV10 dc10 pm10 cd10 ct10 oc11 kV11 dc11 pm11 cd11 ct11 oc12 kV12 dc12 pm12 cd12 ct12 oc13 kV13 dc13 pm13 cd13 ct13 oc14 kV14 dc14 pm14 cd14 ct14 oc15 kV15 dc15 pm15 cd15 ct15 oc16 kV16 dc16 pm16 cd16 ct16 oc17 kV17 dc17 pm17 cd17 ct17 : Value} {t0 : Tok} {cc0 cc1 : Addr} (X : K.In h) (G : h.Ns mainGlobals mg) (hfa : mg (Str.ofString "law") = some (.ref fa))
    (a0 : PySem.W.nsIn K mainGlobals (Str.ofString "need_word") = some (some (.ref f0))) (l0 : K.lookup f0 = some ⟨oc0, od0, .func (PySem.W.fnOf (Str.ofString "need_word") (Str.ofString "need_word") (defArgs s_need_word) (defBody s_need_word) (defScope s_need_word) .none kV0 dc0 pm0 an0 cd0 ct0), sl0⟩) (c0 : PySem.W.codeIn K cd0 (Str.ofString "need_word") = true) (k0 : PySem.W.keepIn K (.ref f0) = true)
    (a1 : PySem.W.nsIn K mainGlobals (Str.ofString "need_signs") = some (some (.ref f1))) (l1 : K.lookup f1 = some ⟨oc1, od1, .func (PySem.W.fnOf (Str.ofString "need_signs") (Str.ofString "need_signs") (defArgs s_need_signs) (defBody s_need_signs) (defScope s_need_signs) .none kV1 dc1 pm1 an1 cd1 ct1), sl1⟩) (c1 : PySem.W.codeIn K cd1 (Str.ofString "need_signs") = true) (k1 : PySem.W.keepIn K (.ref f1) = true)
    (a2 : PySem.W.nsIn K mainGlobals (Str.ofString "greatest_borders") = some (some (.ref f2))) (l2 : K.lookup f2 = some ⟨oc2, od2, .func (PySem.W.fnOf (Str.ofString "greatest_borders") (Str.ofString "greatest_borders") (defArgs s_greatest_borders) (defBody s_greatest_borders) (defScope s_greatest_borders) .none kV2 dc2 pm2 an2 cd2 ct2), sl2⟩) (c2 : PySem.W.codeIn K cd2 (Str.ofString "greatest_borders") = true) (k2 : PySem.W.keepIn K (.ref f2) = true)
    (a3 : PySem.W.nsIn K mainGlobals (Str.ofString "laid_at") = some (some (.ref f3))) (l3 : K.lookup f3 = some ⟨oc3, od3, .func (PySem.W.fnOf (Str.ofString "laid_at") (Str.ofString "laid_at") (defArgs s_laid_at) (defBody s_laid_at) (defScope s_laid_at) .none kV3 dc3 pm3 an3 cd3 ct3), sl3⟩) (c3 : PySem.W.codeIn K cd3 (Str.ofString "laid_at") = true) (k3 : PySem.W.keepIn K (.ref f3) = true)
    (a4 : PySem.W.nsIn K mainGlobals (Str.ofString "_law_hand") = some (some (.ref f4))) (l4 : K.lookup f4 = some ⟨oc4, od4, .func (PySem.W.fnOf (Str.ofString "_law_hand") (Str.ofString "_law_hand") (defArgs s__law_hand) (defBody s__law_hand) (defScope s__law_hand) .none kV4 dc4 pm4 an4 cd4 ct4), sl4⟩) (c4 : PySem.W.codeIn K cd4 (Str.ofString "_law_hand") = true) (k4 : PySem.W.keepIn K (.ref f4) = true)
    (a5 : PySem.W.nsIn K mainGlobals (Str.ofString "_law_take") = some (some (.ref f5))) (l5 : K.lookup f5 = some ⟨oc5, od5, .func (PySem.W.fnOf (Str.ofString "_law_take") (Str.ofString "_law_take") (defArgs s__law_take) (defBody s__law_take) (defScope s__law_take) .none kV5 dc5 pm5 an5 cd5 ct5), sl5⟩) (c5 : PySem.W.codeIn K cd5 (Str.ofString "_law_take") = true) (k5 : PySem.W.keepIn K (.ref f5) = true)
    (a6 : PySem.W.nsIn K mainGlobals (Str.ofString "_law_ends") = some (some (.ref f6))) (l6 : K.lookup f6 = some ⟨oc6, od6, .func (PySem.W.fnOf (Str.ofString "_law_ends") (Str.ofString "_law_ends") (defArgs s__law_ends) (defBody s__law_ends) (defScope s__law_ends) .none kV6 dc6 pm6 an6 cd6 ct6), sl6⟩) (c6 : PySem.W.codeIn K cd6 (Str.ofString "_law_ends") = true) (k6 : PySem.W.keepIn K (.ref f6) = true)
    (a7 : PySem.W.nsIn K mainGlobals (Str.ofString "_law_common") = some (some (.ref f7))) (l7 : K.lookup f7 = some ⟨oc7, od7, .func (PySem.W.fnOf (Str.ofString "_law_common") (Str.ofString "_law_common") (defArgs s__law_common) (defBody s__law_common) (defScope s__law_common) .none kV7 dc7 pm7 an7 cd7 ct7), sl7⟩) (c7 : PySem.W.codeIn K cd7 (Str.ofString "_law_common") = true) (k7 : PySem.W.keepIn K (.ref f7) = true)
    (a8 : PySem.W.nsIn K mainGlobals (Str.ofString "borders") = some (some (.ref f8))) (l8 : K.lookup f8 = some ⟨oc8, od8, .func (PySem.W.fnOf (Str.ofString "borders") (Str.ofString "borders") (defArgs s_borders) (defBody s_borders) (defScope s_borders) .none kV8 dc8 pm8 an8 cd8 ct8), sl8⟩) (c8 : PySem.W.codeIn K cd8 (Str.ofString "borders") = true) (k8 : PySem.W.keepIn K (.ref f8) = true)
    (a9 : PySem.W.nsIn K mainGlobals (Str.ofString "lies_at") = some (some (.ref f9))) (l9 : K.lookup f9 = some ⟨oc9, od9, .func (PySem.W.fnOf (Str.ofString "lies_at") (Str.ofString "lies_at") (defArgs s_lies_at) (defBody s_lies_at) (defScope s_lies_at) .none kV9 dc9 pm9 an9 cd9 ct9), sl9⟩) (c9 : PySem.W.codeIn K cd9 (Str.ofString "lies_at") = true) (k9 : PySem.W.keepIn K (.ref f9) = true)
    (a10 : PySem.W.nsIn K mainGlobals (Str.ofString "_law_letters") = some (some (.ref f10))) (l10 : K.lookup f10 = some ⟨oc10, od10, .func (PySem.W.fnOf (Str.ofString "_law_letters") (Str.ofString "_law_letters") (defArgs s__law_letters) (defBody s__law_letters) (defScope s__law_letters) .none kV10 dc10 pm10 an10 cd10 ct10), sl10⟩) (c10 : PySem.W.codeIn K cd10 (Str.ofString "_law_letters") = true) (k10 : PySem.W.keepIn K (.ref f10) = true)
    (a11 : PySem.W.nsIn K mainGlobals (Str.ofString "_law_signs") = some (some (.ref f11))) (l11 : K.lookup f11 = some ⟨oc11, od11, .func (PySem.W.fnOf (Str.ofString "_law_signs") (Str.ofString "_law_signs") (defArgs s__law_signs) (defBody s__law_signs) (defScope s__law_signs) .none kV11 dc11 pm11 an11 cd11 ct11), sl11⟩) (c11 : PySem.W.codeIn K cd11 (Str.ofString "_law_signs") = true) (k11 : PySem.W.keepIn K (.ref f11) = true)
    (a12 : PySem.W.nsIn K mainGlobals (Str.ofString "_law_laid") = some (some (.ref f12))) (l12 : K.lookup f12 = some ⟨oc12, od12, .func (PySem.W.fnOf (Str.ofString "_law_laid") (Str.ofString "_law_laid") (defArgs s__law_laid) (defBody s__law_laid) (defScope s__law_laid) .none kV12 dc12 pm12 an12 cd12 ct12), sl12⟩) (c12 : PySem.W.codeIn K cd12 (Str.ofString "_law_laid") = true) (k12 : PySem.W.keepIn K (.ref f12) = true)
    (a13 : PySem.W.nsIn K mainGlobals (Str.ofString "_law_renamed") = some (some (.ref f13))) (l13 : K.lookup f13 = some ⟨oc13, od13, .func (PySem.W.fnOf (Str.ofString "_law_renamed") (Str.ofString "_law_renamed") (defArgs s__law_renamed) (defBody s__law_renamed) (defScope s__law_renamed) .none kV13 dc13 pm13 an13 cd13 ct13), sl13⟩) (c13 : PySem.W.codeIn K cd13 (Str.ofString "_law_renamed") = true) (k13 : PySem.W.keepIn K (.ref f13) = true)
    (a14 : PySem.W.nsIn K mainGlobals (Str.ofString "periods") = some (some (.ref f14))) (l14 : K.lookup f14 = some ⟨oc14, od14, .func (PySem.W.fnOf (Str.ofString "periods") (Str.ofString "periods") (defArgs s_periods) (defBody s_periods) (defScope s_periods) .none kV14 dc14 pm14 an14 cd14 ct14), sl14⟩) (c14 : PySem.W.codeIn K cd14 (Str.ofString "periods") = true) (k14 : PySem.W.keepIn K (.ref f14) = true)
    (a15 : PySem.W.nsIn K mainGlobals (Str.ofString "_law_text") = some (some (.ref f15))) (l15 : K.lookup f15 = some ⟨oc15, od15, .func (PySem.W.fnOf (Str.ofString "_law_text") (Str.ofString "_law_text") (defArgs s__law_text) (defBody s__law_text) (defScope s__law_text) .none kV15 dc15 pm15 an15 cd15 ct15), sl15⟩) (c15 : PySem.W.codeIn K cd15 (Str.ofString "_law_text") = true) (k15 : PySem.W.keepIn K (.ref f15) = true)
    (a16 : PySem.W.nsIn K mainGlobals (Str.ofString "_law_right") = some (some (.ref f16))) (l16 : K.lookup f16 = some ⟨oc16, od16, .func (PySem.W.fnOf (Str.ofString "_law_right") (Str.ofString "_law_right") (defArgs s__law_right) (defBody s__law_right) (defScope s__law_right) .none kV16 dc16 pm16 an16 cd16 ct16), sl16⟩) (c16 : PySem.W.codeIn K cd16 (Str.ofString "_law_right") = true) (k16 : PySem.W.keepIn K (.ref f16) = true)
    (a17 : PySem.W.nsIn K mainGlobals (Str.ofString "law") = some (some (.ref f17))) (l17 : K.lookup f17 = some ⟨oc17, od17, .func (PySem.W.fnOf (Str.ofString "law") (Str.ofString "law") (defArgs s_law) (defBody s_law) (defScope s_law) .none kV17 dc17 pm17 an17 cd17 ct17), sl17⟩) (c17 : PySem.W.codeIn K cd17 (Str.ofString "law") = true) (k17 : PySem.W.keepIn K (.ref f17) = true)
    (e0 : PySem.W.nsIn K mainGlobals (Str.ofString "LETTERS") = some (some (.str (Str.ofString "abcdefghijklmnopqrstuvwxyz") t0)))
    (z0 : PySem.W.nsIn K mainGlobals (Str.ofString "dict") = some none)
    (z1 : PySem.W.nsIn K mainGlobals (Str.ofString "enumerate") = some none)
    (z2 : PySem.W.nsIn K mainGlobals (Str.ofString "int") = some none)
    (z3 : PySem.W.nsIn K mainGlobals (Str.ofString "len") = some none)
    (z4 : PySem.W.nsIn K mainGlobals (Str.ofString "list") = some none)
    (z5 : PySem.W.nsIn K mainGlobals (Str.ofString "max") = some none)
    (z6 : PySem.W.nsIn K mainGlobals (Str.ofString "min") = some none)
    (z7 : PySem.W.nsIn K mainGlobals (Str.ofString "range") = some none)
    (xn0 : PySem.W.nsIn K mainGlobals (Str.ofString "NoWord") = some (some (.ref cc0)))
    (xx0 : PySem.W.excIn K cc0 [.type "ValueError", .type "Exception", .type "BaseException", .type "object"] "ValueError.__new__" = true)
    (xk0 : PySem.W.keepIn K (.ref cc0) = true)
    (xb0 : PySem.W.subIn K (.ref cc0) (.type "BaseException") = some true)
    (xt0 : PySem.W.typeIn K (.ref cc0) = some (.type "type"))
    (xd0 : PySem.W.hasDictIn K cc0 = true)
    (xs0 : PySem.W.subIn K (.ref cc0) (.ref cc0) = some true)
    (xn1 : PySem.W.nsIn K mainGlobals (Str.ofString "NoSign") = some (some (.ref cc1)))
    (xx1 : PySem.W.excIn K cc1 [.type "ValueError", .type "Exception", .type "BaseException", .type "object"] "ValueError.__new__" = true)
    (xk1 : PySem.W.keepIn K (.ref cc1) = true)
    (xb1 : PySem.W.subIn K (.ref cc1) (.type "BaseException") = some true)
    (xt1 : PySem.W.typeIn K (.ref cc1) = some (.type "type"))
    (xd1 : PySem.W.hasDictIn K cc1 = true)
    (xs1 : PySem.W.subIn K (.ref cc1) (.ref cc1) = some true) :
    ∃ fd : FuncData, (∀ (s : Shared) (v : Value), BindsTo s fd ⟨[v], []⟩ [(Str.ofString "script", v)]) ∧ ∀ base : Heap, K.In base → base.Ns mainGlobals mg → FnOk l.prog w K mg base CX0 5 fa fd [Str.ofString "script"] (spLaw K Ov.F_law_k04) := by
  have e := hfa.symm.trans (PySem.W.mg_of X G a17)
  cases e
  have F0 := fun_mk (st := s_need_word) l0 c0 k0
  have F1 := fun_mk (st := s_need_signs) l1 c1 k1
  have F2 := fun_mk (st := s_greatest_borders) l2 c2 k2
  have F3 := fun_mk (st := s_laid_at) l3 c3 k3
  have F4 := fun_mk (st := s__law_hand) l4 c4 k4
  have F5 := fun_mk (st := s__law_take) l5 c5 k5
  have F6 := fun_mk (st := s__law_ends) l6 c6 k6
  have F7 := fun_mk (st := s__law_common) l7 c7 k7
  have F8 := fun_mk (st := s_borders) l8 c8 k8
  have F9 := fun_mk (st := s_lies_at) l9 c9 k9
  have F10 := fun_mk (st := s__law_letters) l10 c10 k10
  have F11 := fun_mk (st := s__law_signs) l11 c11 k11
  have F12 := fun_mk (st := s__law_laid) l12 c12 k12
  have F13 := fun_mk (st := s__law_renamed) l13 c13 k13
  have F14 := fun_mk (st := s_periods) l14 c14 k14
  have F15 := fun_mk (st := s__law_text) l15 c15 k15
  have F16 := fun_mk (st := s__law_right) l16 c16 k16
  have F17 := fun_mk (st := s_law) l17 c17 k17
  let T : Tp K mg := ⟨_, _, F0, PySem.W.mg_of X G a0, F0.binds (ps := ps_need_word) (fun _ _ _ _ _ _ us hl => match us, hl with | [_], _ => rfl),
    _, _, F1, PySem.W.mg_of X G a1, F1.binds (ps := ps_need_signs) (fun _ _ _ _ _ _ us hl => match us, hl with | [_], _ => rfl),
    _, _, F2, PySem.W.mg_of X G a2, F2.binds (ps := ps_greatest_borders) (fun _ _ _ _ _ _ us hl => match us, hl with | [_], _ => rfl),
    _, _, F3, PySem.W.mg_of X G a3, F3.binds (ps := ps_laid_at) (fun _ _ _ _ _ _ us hl => match us, hl with | [_, _], _ => rfl),
    _, _, F4, PySem.W.mg_of X G a4, F4.binds (ps := ps__law_hand) (fun _ _ _ _ _ _ us hl => match us, hl with | [_], _ => rfl),
    _, _, F5, PySem.W.mg_of X G a5, F5.binds (ps := ps__law_take) (fun _ _ _ _ _ _ us hl => match us, hl with | [_, _], _ => rfl),
    _, _, F6, PySem.W.mg_of X G a6, F6.binds (ps := ps__law_ends) (fun _ _ _ _ _ _ us hl => match us, hl with | [_], _ => rfl),
    _, _, F7, PySem.W.mg_of X G a7, F7.binds (ps := ps__law_common) (fun _ _ _ _ _ _ us hl => match us, hl with | [_, _], _ => rfl),
    _, _, F8, PySem.W.mg_of X G a8, F8.binds (ps := ps_borders) (fun _ _ _ _ _ _ us hl => match us, hl with | [_], _ => rfl),
    _, _, F9, PySem.W.mg_of X G a9, F9.binds (ps := ps_lies_at) (fun _ _ _ _ _ _ us hl => match us, hl with | [_, _], _ => rfl),
    _, _, F10, PySem.W.mg_of X G a10, F10.binds (ps := ps__law_letters) (fun _ _ _ _ _ _ us hl => match us, hl with | [_], _ => rfl),
    _, _, F11, PySem.W.mg_of X G a11, F11.binds (ps := ps__law_signs) (fun _ _ _ _ _ _ us hl => match us, hl with | [_, _, _], _ => rfl),
    _, _, F12, PySem.W.mg_of X G a12, F12.binds (ps := ps__law_laid) (fun _ _ _ _ _ _ us hl => match us, hl with | [_, _, _], _ => rfl),
    _, _, F13, PySem.W.mg_of X G a13, F13.binds (ps := ps__law_renamed) (fun _ _ _ _ _ _ us hl => match us, hl with | [_], _ => rfl),
    _, _, F14, PySem.W.mg_of X G a14, F14.binds (ps := ps_periods) (fun _ _ _ _ _ _ us hl => match us, hl with | [_], _ => rfl),
    _, _, F15, PySem.W.mg_of X G a15, F15.binds (ps := ps__law_text) (fun _ _ _ _ _ _ us hl => match us, hl with | [_, _], _ => rfl),
    _, _, F16, PySem.W.mg_of X G a16, F16.binds (ps := ps__law_right) (fun _ _ _ _ _ _ us hl => match us, hl with | [_, _], _ => rfl),
    _, _, F17, PySem.W.mg_of X G a17, F17.binds (ps := ps_law) (fun _ _ _ _ _ _ us hl => match us, hl with | [_], _ => rfl),
    _, PySem.W.mg_of X G e0,
    PySem.W.mg_none_of X G z0,
    PySem.W.mg_none_of X G z1,
    PySem.W.mg_none_of X G z2,
    PySem.W.mg_none_of X G z3,
    PySem.W.mg_none_of X G z4,
    PySem.W.mg_none_of X G z5,
    PySem.W.mg_none_of X G z6,
    PySem.W.mg_none_of X G z7,
    cc0, ⟨xn0, PySem.W.mg_of X G xn0, xx0, xk0, xb0, xt0, xd0, xs0⟩,
    cc1, ⟨xn1, PySem.W.mg_of X G xn1, xx1, xk1, xb1, xt1, xd1, xs1⟩⟩
  exact ⟨_, fun s v => .of_eq rfl, fun base _ _ => ok_law T⟩
end Lk04
open PySem PySem.W PyProof.Rows
set_option maxHeartbeats 0 in
theorem PySem.Challenge.cw_overlaid_k04_whole_borders_holds : PySem.Challenge.rw_overlaid_k04_whole_borders.Holds := by
  w_on; o_law; k_head; (case hw => w_witness2)
  k_fill
  refine L2.walk_of (l := PySem.Challenge.rw_overlaid_k04_whole_borders) (n := 63) (k := 5) (x := "script") (CX := fun _ => L2.CX0) (sp := fun w => MV.spLaw _ Ov.F_law_k04) rfl (by decide) rfl ⟨rfl, by decide, by decide⟩ (fun w h Y => PySem.W.kIn_of Y) ?F (fun _ _ a ns hl _ hS => ⟨rfl, a, ns, rfl, hS, Ov.true_law_k04 ns hl, fun _ => rfl⟩) (fun _ _ _ _ _ h => h)
  case F =>
    intro w mg fa h KX G hmg
    refine' Lk04.all_mk KX G hmg ?a0 ?l0 ?c0 ?k0 ?a1 ?l1 ?c1 ?k1 ?a2 ?l2 ?c2 ?k2 ?a3 ?l3 ?c3 ?k3 ?a4 ?l4 ?c4 ?k4 ?a5 ?l5 ?c5 ?k5 ?a6 ?l6 ?c6 ?k6 ?a7 ?l7 ?c7 ?k7 ?a8 ?l8 ?c8 ?k8 ?a9 ?l9 ?c9 ?k9 ?a10 ?l10 ?c10 ?k10 ?a11 ?l11 ?c11 ?k11 ?a12 ?l12 ?c12 ?k12 ?a13 ?l13 ?c13 ?k13 ?a14 ?l14 ?c14 ?k14 ?a15 ?l15 ?c15 ?k15 ?a16 ?l16 ?c16 ?k16 ?a17 ?l17 ?c17 ?k17 ?e0 ?z0 ?z1 ?z2 ?z3 ?z4 ?z5 ?z6 ?z7 ?xn0 ?xx0 ?xk0 ?xb0 ?xt0 ?xd0 ?xs0 ?xn1 ?xx1 ?xk1 ?xb1 ?xt1 ?xd1 ?xs1
    (case a0 => k_is); (case l0 => k_is); (case c0 => k_is); (case k0 => k_is); (case a1 => k_is); (case l1 => k_is); (case c1 => k_is); (case k1 => k_is); (case a2 => k_is); (case l2 => k_is); (case c2 => k_is); (case k2 => k_is); (case a3 => k_is); (case l3 => k_is); (case c3 => k_is); (case k3 => k_is); (case a4 => k_is); (case l4 => k_is); (case c4 => k_is); (case k4 => k_is); (case a5 => k_is); (case l5 => k_is); (case c5 => k_is); (case k5 => k_is); (case a6 => k_is); (case l6 => k_is); (case c6 => k_is); (case k6 => k_is); (case a7 => k_is); (case l7 => k_is); (case c7 => k_is); (case k7 => k_is); (case a8 => k_is); (case l8 => k_is); (case c8 => k_is); (case k8 => k_is); (case a9 => k_is); (case l9 => k_is); (case c9 => k_is); (case k9 => k_is); (case a10 => k_is); (case l10 => k_is); (case c10 => k_is); (case k10 => k_is); (case a11 => k_is); (case l11 => k_is); (case c11 => k_is); (case k11 => k_is); (case a12 => k_is); (case l12 => k_is); (case c12 => k_is); (case k12 => k_is); (case a13 => k_is); (case l13 => k_is); (case c13 => k_is); (case k13 => k_is); (case a14 => k_is); (case l14 => k_is); (case c14 => k_is); (case k14 => k_is); (case a15 => k_is); (case l15 => k_is); (case c15 => k_is); (case k15 => k_is); (case a16 => k_is); (case l16 => k_is); (case c16 => k_is); (case k16 => k_is); (case a17 => k_is); (case l17 => k_is); (case c17 => k_is); (case k17 => k_is); (case e0 => k_is); (case z0 => k_is); (case z1 => k_is); (case z2 => k_is); (case z3 => k_is); (case z4 => k_is); (case z5 => k_is); (case z6 => k_is); (case z7 => k_is); (case xn0 => k_is); (case xx0 => k_exc); (case xk0 => k_is); (case xb0 => k_is); (case xt0 => k_is); (case xd0 => k_is); (case xs0 => k_is); (case xn1 => k_is); (case xx1 => k_exc); (case xk1 => k_is); (case xb1 => k_is); (case xt1 => k_is); (case xd1 => k_is); (case xs1 => k_is)

