import PyProof.Rows.All
import Wide.All
import OpenK.AllK
import Wide.FinOn
import HandS.ForMost
import HandS.ForExc
import HandS.ExcCtx
import HandS.HotCalls
import HandS.ExcIs
import HandS.ExcValue
import HandS.Style
import HandS.Wide
import HandS.Conv
import PyProof.ListStr
import HandS.Zip
import HandS.IsInst
import HandS.TryOnly
import HandS.Set
import HandS.SetFor
import HandS.SortInts
import HandS.More
import HandS.Dict
import HandS.Strs
import KE.DataMinMax
import KE.SortData
import HandS.SortKw
import HandS.Deep
import HandS.TupLe
import HandS.Replace
import KE.KDictWalk
import KE.BitLaws
import PySem.Challenge.RW_overlaid_k27_whole_bare
set_option Elab.async false
set_option linter.all false
set_option maxRecDepth 100000
set_option maxHeartbeats 4000000
set_option autoImplicit false
namespace MV
open PySem L2
inductive D where
  | non
  | bl (b : Bool)
  | int (i : Int)
  | str (x : Str)
  | lst (xs : List D)
  | tup (xs : List D)
  | dic (kvs : List (Key × D))
  | dit (kvs : List (List Key × D))
  | exc (c : Str)
  deriving Inhabited
def D.toV : D → Option V
  | .non => some .non
  | .bl b => some (.bl b)
  | .int i => some (.int i)
  | .str x => some (.str x)
  | _ => none
def D.sc (d : D) : Bool := d.toV.isSome
def D.flat : D → Bool
  | .lst xs => xs.all D.sc
  | .tup xs => xs.all D.sc
  | d => d.sc
def Ex (H H' : Hp) : Prop := ∀ a o, H a = some o → H' a = some o
theorem Ex.refl (H : Hp) : Ex H H := fun _ _ h => h
theorem Ex.trans {H H1 H2 : Hp} (a : Ex H H1) (b : Ex H1 H2) : Ex H H2 := fun x o h => b x o (a x o h)
theorem Ex.new {H : Hp} {p : Addr} {o : HO} (h : H p = none) : Ex H (upd H p o) := fun a u e => by
  rw [upd_ne (ne_of_none e h)]; exact e
theorem Ex.dom {H H' : Hp} (e : Ex H H') {a : Addr} (h : H a ≠ none) : H' a ≠ none := by
  cases q : H a with
  | none => exact absurd q h
  | some o => rw [e a o q]; exact fun z => by cases z
theorem Ex.back {H H' : Hp} (e : Ex H H') {a : Addr} (h : H' a = none) : H a = none := by
  cases q : H a with
  | none => rfl
  | some o => rw [e a o q] at h; cases h
def nw (H H' : Hp) : Hp := fun a => match H a with | none => H' a | some _ => none
def grow (G H H' : Hp) : Hp := fun a => match H a with | none => H' a | some _ => G a
def rs (G B : Hp) : Hp := fun a => match B a with | none => G a | some _ => none
def rm (G : Hp) (w : List Addr) : Hp := fun a => if a ∈ w then none else G a
theorem grow_none {G H H' : Hp} {a : Addr} (h : H a = none) : grow G H H' a = H' a := by unfold grow; rw [h]
theorem grow_some {G H H' : Hp} {a : Addr} {o : HO} (h : H a = some o) : grow G H H' a = G a := by unfold grow; rw [h]
theorem rs_none {G B : Hp} {a : Addr} (h : B a = none) : rs G B a = G a := by unfold rs; rw [h]
theorem rs_some {G B : Hp} {a : Addr} {o : HO} (h : B a = some o) : rs G B a = none := by unfold rs; rw [h]
theorem nw_none {H H' : Hp} {a : Addr} (h : H a = none) : nw H H' a = H' a := by unfold nw; rw [h]
theorem nw_some {H H' : Hp} {a : Addr} {o : HO} (h : H a = some o) : nw H H' a = none := by unfold nw; rw [h]
theorem Ex.grow {G H H' : Hp} (e : Ex G H) (x : Ex H H') : Ex G (grow G H H') := fun a o h => by
  rw [grow_some (e a o h)]; exact h
theorem grow_sub {G H H' : Hp} (e : Ex G H) (x : Ex H H') : Ex (grow G H H') H' := fun a o h => by
  cases q : H a with
  | none => rw [grow_none q] at h; exact h
  | some u => rw [grow_some q] at h; exact x a o (e a o h)
theorem rs_sub (G B : Hp) : Ex (rs G B) G := fun a o h => by
  cases q : B a with
  | none => rw [rs_none q] at h; exact h
  | some u => rw [rs_some q] at h; cases h
theorem rs_mono {G G' B : Hp} (e : Ex G G') : Ex (rs G B) (rs G' B) := fun a o h => by
  cases q : B a with
  | none => rw [rs_none q] at h ⊢; exact e a o h
  | some u => rw [rs_some q] at h; cases h
theorem rm_sub (G : Hp) (w : List Addr) : Ex (rm G w) G := fun a o h => by
  unfold rm at h; split at h
  · cases h
  · exact h
def SqLx (K : PySem.W.Frag) : Bool → Hp → Addr → List V → Prop
  | true, G, a, xs => G a = some (.lst xs)
  | false, G, a, xs => SqL K G a xs
def SqTx (K : PySem.W.Frag) : Bool → Hp → Addr → List V → Prop
  | true, G, a, xs => G a = some (.tup xs)
  | false, G, a, xs => SqT K G a xs
def DqK : Bool → Hp → Addr → List (Key × V) → Prop
  | true, G, a, kvs => G a = some (.dK kvs)
  | false, G, a, kvs => ∃ o, G a = some (.frz o (.dK kvs))
def cvK (K : PySem.W.Frag) (c : Str) : Value := match PySem.W.nsIn K mainGlobals c with
  | some (some v) => v
  | _ => .none
def ExH (cls : Value) (a : Addr) : HO := .ext fun h => ∃ (oe : Obj) (vs : Array Value), h.get? a = some oe ∧ oe.cls = cls ∧ oe.dict = none ∧ oe.data = .fields vs
mutual
inductive Rp (K : PySem.W.Frag) (x : Bool) (G : Hp) : V → D → Prop
  | sc {v : V} {d : D} : d.toV = some v → Rp K x G v d
  | lst {a : Addr} {xs : List V} {ds : List D} : SqLx K x G a xs → RpL K x G xs ds → Rp K x G (.ref a) (.lst ds)
  | tup {a : Addr} {xs : List V} {ds : List D} : SqTx K x G a xs → RpL K x G xs ds → Rp K x G (.ref a) (.tup ds)
  | dic {a : Addr} {ks : List Key} {vs : List V} {ds : List D} : DqK x G a (ks.zip vs) → ks.length = vs.length → RpL K x G vs ds → Rp K x G (.ref a) (.dic (ks.zip ds))
  | dit {a : Addr} {ks : List (List Key)} {vs : List V} {ds : List D} : Rd G a (.dT (ks.zip vs)) → ks.length = vs.length → RpL K x G vs ds → Rp K x G (.ref a) (.dit (ks.zip ds))
  | exc {a : Addr} {c : Str} : G a = some (ExH (cvK K c) a) → Rp K x G (.ref a) (.exc c)
inductive RpL (K : PySem.W.Frag) (x : Bool) (G : Hp) : List V → List D → Prop
  | nil : RpL K x G [] []
  | cons {v : V} {vs : List V} {d : D} {ds : List D} : Rp K x G v d → RpL K x G vs ds → RpL K x G (v :: vs) (d :: ds)
end
theorem ex_sql {K : PySem.W.Frag} {H H' : Hp} {a : Addr} {xs : List V} (e : Ex H H') (h : SqL K H a xs) : SqL K H' a xs := by
  rcases h with (h | ⟨o, h⟩) | h
  · exact .inl (.inl (e _ _ h))
  · exact .inl (.inr ⟨o, e _ _ h⟩)
  · exact .inr h
theorem ex_sqt {K : PySem.W.Frag} {H H' : Hp} {a : Addr} {xs : List V} (e : Ex H H') (h : SqT K H a xs) : SqT K H' a xs := by
  rcases h with (h | ⟨o, h⟩) | h
  · exact .inl (.inl (e _ _ h))
  · exact .inl (.inr ⟨o, e _ _ h⟩)
  · exact .inr h
theorem SqLx.any {K : PySem.W.Frag} {H : Hp} {a : Addr} {xs : List V} {x : Bool} (h : SqLx K x H a xs) : SqL K H a xs := by
  cases x with
  | true => exact .inl (.inl h)
  | false => exact h
theorem SqTx.any {K : PySem.W.Frag} {H : Hp} {a : Addr} {xs : List V} {x : Bool} (h : SqTx K x H a xs) : SqT K H a xs := by
  cases x with
  | true => exact .inl (.inl h)
  | false => exact h
theorem ex_sqlx {K : PySem.W.Frag} {x y : Bool} {H H' : Hp} {a : Addr} {xs : List V} (e : Ex H H') (l : y = true → x = true) (h : SqLx K x H a xs) : SqLx K y H' a xs := by
  cases y with
  | true => rw [l rfl] at h; exact e _ _ h
  | false => exact ex_sql e h.any
theorem ex_sqtx {K : PySem.W.Frag} {x y : Bool} {H H' : Hp} {a : Addr} {xs : List V} (e : Ex H H') (l : y = true → x = true) (h : SqTx K x H a xs) : SqTx K y H' a xs := by
  cases y with
  | true => rw [l rfl] at h; exact e _ _ h
  | false => exact ex_sqt e h.any
theorem ex_dqk {x : Bool} {H H' : Hp} {a : Addr} {kvs : List (Key × V)} (e : Ex H H') (h : DqK x H a kvs) : DqK x H' a kvs := by
  cases x with
  | true => exact e _ _ h
  | false => obtain ⟨o, h⟩ := h; exact ⟨o, e _ _ h⟩
theorem rd_mono {H H' : Hp} {a : Addr} {u : HO} (e : Ex H H') (h : Rd H a u) : Rd H' a u := h.imp (e _ _) fun ⟨o, q⟩ => ⟨o, e _ _ q⟩
mutual
theorem Rp.to {K : PySem.W.Frag} {x : Bool} {G G' : Hp} (e : Ex G G') : ∀ {v : V} {d : D}, Rp K x G v d → Rp K x G' v d
  | _, _, .sc h => .sc h
  | _, _, .lst h r => .lst (ex_sqlx e id h) (RpL.to e r)
  | _, _, .tup h r => .tup (ex_sqtx e id h) (RpL.to e r)
  | _, _, .dic h n r => .dic (ex_dqk e h) n (RpL.to e r)
  | _, _, .dit h n r => .dit (rd_mono e h) n (RpL.to e r)
  | _, _, .exc h => .exc (e _ _ h)
theorem RpL.to {K : PySem.W.Frag} {x : Bool} {G G' : Hp} (e : Ex G G') : ∀ {vs : List V} {ds : List D}, RpL K x G vs ds → RpL K x G' vs ds
  | _, _, .nil => .nil
  | _, _, .cons h r => .cons (Rp.to e h) (RpL.to e r)
end
section
variable {K : PySem.W.Frag} {x : Bool} {G : Hp}
theorem Rp.mono {G' : Hp} (e : Ex G G') {v : V} {d : D} (h : Rp K x G v d) : Rp K x G' v d := h.to e
theorem RpL.mono {G' : Hp} (e : Ex G G') {v : List V} {d : List D} (h : RpL K x G v d) : RpL K x G' v d := h.to e
theorem RpL.length : ∀ {vs : List V} {ds : List D}, RpL K x G vs ds → vs.length = ds.length
  | _, _, .nil => rfl
  | _, _, .cons _ r => by rw [List.length_cons, List.length_cons, r.length]
theorem RpL.get : ∀ {vs : List V} {ds : List D} {i : Nat} {d : D}, RpL K x G vs ds → ds[i]? = some d → ∃ v, vs[i]? = some v ∧ Rp K x G v d
  | _, _, _, _, .nil, h => by simp at h
  | _, _, 0, _, .cons h _, e => by simp at e; subst e; exact ⟨_, rfl, h⟩
  | _, _, i + 1, d, .cons _ r, e => by
    obtain ⟨v, h1, h2⟩ := RpL.get (i := i) (d := d) r (by simpa using e)
    exact ⟨v, by simpa using h1, h2⟩
theorem RpL.getV : ∀ {vs : List V} {ds : List D} {i : Nat} {v : V}, RpL K x G vs ds → vs[i]? = some v → ∃ d, ds[i]? = some d ∧ Rp K x G v d
  | _, _, _, _, .nil, h => by simp at h
  | _, _, 0, _, .cons h _, e => by simp at e; subst e; exact ⟨_, rfl, h⟩
  | _, _, i + 1, d, .cons _ r, e => by
    obtain ⟨v, h1, h2⟩ := RpL.getV (i := i) (v := d) r (by simpa using e)
    exact ⟨v, by simpa using h1, h2⟩
theorem RpL.append : ∀ {vs ws : List V} {ds es : List D}, RpL K x G vs ds → RpL K x G ws es → RpL K x G (vs ++ ws) (ds ++ es)
  | _, _, _, _, .nil, h => h
  | _, _, _, _, .cons h r, h2 => .cons h (RpL.append r h2)
theorem RpL.take : ∀ {vs : List V} {ds : List D} (n : Nat), RpL K x G vs ds → RpL K x G (vs.take n) (ds.take n)
  | _, _, 0, _ => .nil
  | _, _, _ + 1, .nil => .nil
  | _, _, n + 1, .cons h r => .cons h (RpL.take n r)
theorem RpL.drop : ∀ {vs : List V} {ds : List D} (n : Nat), RpL K x G vs ds → RpL K x G (vs.drop n) (ds.drop n)
  | _, _, 0, r => r
  | _, _, _ + 1, .nil => .nil
  | _, _, n + 1, .cons _ r => RpL.drop n r
theorem RpL.rev {vs : List V} {ds : List D} (h : RpL K x G vs ds) : RpL K x G vs.reverse ds.reverse := by
  induction vs generalizing ds with
  | nil => cases h; exact .nil
  | cons v vs ih => cases h with | cons h r => rw [List.reverse_cons, List.reverse_cons]; exact (ih r).append (.cons h .nil)
theorem RpL.set : ∀ {vs : List V} {ds : List D} {v : V} {d : D} (i : Nat), RpL K x G vs ds → Rp K x G v d → RpL K x G (vs.set i v) (ds.set i d)
  | _, _, _, _, _, .nil, _ => .nil
  | _, _, _, _, 0, .cons _ t, r => .cons r t
  | _, _, _, _, i + 1, .cons q t, r => .cons q (RpL.set i t r)
theorem Rp.sc_any {v : V} {d : D} (h : Rp K x G v d) (hs : d.sc = true) (y : Bool) (G' : Hp) : Rp K y G' v d := by
  cases h with
  | sc h => exact .sc h
  | lst _ _ => cases hs
  | tup _ _ => cases hs
  | dic _ _ _ => cases hs
  | dit _ _ _ => cases hs
  | exc _ => cases hs
theorem Rp.toV {v : V} {d : D} (h : Rp K x G v d) (hs : d.sc = true) : d.toV = some v := by
  cases h with
  | sc h => exact h
  | lst _ _ => cases hs
  | tup _ _ => cases hs
  | dic _ _ _ => cases hs
  | dit _ _ _ => cases hs
  | exc _ => cases hs
theorem RpL.sc_any : ∀ {vs : List V} {ds : List D}, RpL K x G vs ds → ds.all D.sc = true → ∀ (y : Bool) (G' : Hp), RpL K y G' vs ds
  | _, _, .nil, _, _, _ => .nil
  | _, _, .cons h r, hs, y, G' => by
    rw [List.all_cons, Bool.and_eq_true] at hs
    exact .cons (h.sc_any hs.1 y G') (RpL.sc_any r hs.2 y G')
theorem Rp.int_inv {v : V} {i : Int} (h : Rp K x G v (.int i)) : v = .int i := by
  have := h.toV rfl; exact (Option.some.inj this).symm
theorem Rp.bl_inv {v : V} {b : Bool} (h : Rp K x G v (.bl b)) : v = .bl b := by
  have := h.toV rfl; exact (Option.some.inj this).symm
theorem Rp.str_inv {v : V} {z : Str} (h : Rp K x G v (.str z)) : v = .str z := by
  have := h.toV rfl; exact (Option.some.inj this).symm
theorem Rp.non_inv {v : V} (h : Rp K x G v .non) : v = .non := by
  have := h.toV rfl; exact (Option.some.inj this).symm
theorem Rp.lst_inv {v : V} {ds : List D} (h : Rp K x G v (.lst ds)) : ∃ a xs, v = .ref a ∧ SqLx K x G a xs ∧ RpL K x G xs ds := by
  cases h with
  | sc h => cases h
  | lst h r => exact ⟨_, _, rfl, h, r⟩
theorem Rp.tup_inv {v : V} {ds : List D} (h : Rp K x G v (.tup ds)) : ∃ a xs, v = .ref a ∧ SqTx K x G a xs ∧ RpL K x G xs ds := by
  cases h with
  | sc h => cases h
  | tup h r => exact ⟨_, _, rfl, h, r⟩
theorem Rp.int (i : Int) : Rp K x G (.int i) (.int i) := .sc rfl
theorem Rp.bl (b : Bool) : Rp K x G (.bl b) (.bl b) := .sc rfl
theorem Rp.str (z : Str) : Rp K x G (.str z) (.str z) := .sc rfl
theorem Rp.non : Rp K x G .non .non := .sc rfl
end
mutual
inductive Own (K : PySem.W.Frag) (Hn H : Hp) : List Addr → V → D → Prop
  | leaf {v : V} {d : D} : Rp K true Hn v d → Own K Hn H [] v d
  | lst {p : Addr} {F : List Addr} {xs : List V} {ds : List D} : H p = some (.lst xs) → OwnL K Hn H F xs ds → Own K Hn H (p :: F) (.ref p) (.lst ds)
  | tup {p : Addr} {F : List Addr} {xs : List V} {ds : List D} : H p = some (.tup xs) → OwnL K Hn H F xs ds → Own K Hn H (p :: F) (.ref p) (.tup ds)
  | dic {p : Addr} {F : List Addr} {ks : List Key} {vs : List V} {ds : List D} : H p = some (.dK (ks.zip vs)) → ks.length = vs.length → OwnL K Hn H F vs ds → Own K Hn H (p :: F) (.ref p) (.dic (ks.zip ds))
  | dit {p : Addr} {F : List Addr} {ks : List (List Key)} {vs : List V} {ds : List D} : H p = some (.dT (ks.zip vs)) → ks.length = vs.length → OwnL K Hn H F vs ds → Own K Hn H (p :: F) (.ref p) (.dit (ks.zip ds))
inductive OwnL (K : PySem.W.Frag) (Hn H : Hp) : List Addr → List V → List D → Prop
  | nil : OwnL K Hn H [] [] []
  | cons {F F' : List Addr} {v : V} {vs : List V} {d : D} {ds : List D} : Own K Hn H F v d → OwnL K Hn H F' vs ds → OwnL K Hn H (F ++ F') (v :: vs) (d :: ds)
end
section
variable {K : PySem.W.Frag} {Hn Hn' H H' : Hp}
mutual
theorem Own.keep (en : Ex Hn Hn') : ∀ {F : List Addr} {v : V} {d : D}, Own K Hn H F v d → (∀ a ∈ F, ∀ o, H a = some o → H' a = some o) → Own K Hn' H' F v d
  | _, _, _, .leaf h, _ => .leaf (h.mono en)
  | _, _, _, .lst h r, e => .lst (e _ List.mem_cons_self _ h) (OwnL.keep en r fun a m => e a (List.mem_cons_of_mem _ m))
  | _, _, _, .tup h r, e => .tup (e _ List.mem_cons_self _ h) (OwnL.keep en r fun a m => e a (List.mem_cons_of_mem _ m))
  | _, _, _, .dic h l r, e => .dic (e _ List.mem_cons_self _ h) l (OwnL.keep en r fun a m => e a (List.mem_cons_of_mem _ m))
  | _, _, _, .dit h l r, e => .dit (e _ List.mem_cons_self _ h) l (OwnL.keep en r fun a m => e a (List.mem_cons_of_mem _ m))
theorem OwnL.keep (en : Ex Hn Hn') : ∀ {F : List Addr} {vs : List V} {ds : List D}, OwnL K Hn H F vs ds → (∀ a ∈ F, ∀ o, H a = some o → H' a = some o) → OwnL K Hn' H' F vs ds
  | _, _, _, .nil, _ => .nil
  | _, _, _, .cons h r, e => .cons (Own.keep en h fun a m => e a (List.mem_append_left _ m)) (OwnL.keep en r fun a m => e a (List.mem_append_right _ m))
end
theorem Own.mono (en : Ex Hn Hn') (e : Ex H H') {F : List Addr} {v : V} {d : D} (h : Own K Hn H F v d) : Own K Hn' H' F v d := h.keep en fun a _ o q => e a o q
mutual
theorem Own.dom : ∀ {F : List Addr} {v : V} {d : D}, Own K Hn H F v d → ∀ a ∈ F, H a ≠ none
  | _, _, _, .leaf _, a, m => by cases m
  | _, _, _, .lst h r, a, m => by
    rcases List.mem_cons.mp m with rfl | m
    · rw [h]; exact fun z => by cases z
    · exact OwnL.dom r a m
  | _, _, _, .tup h r, a, m => by
    rcases List.mem_cons.mp m with rfl | m
    · rw [h]; exact fun z => by cases z
    · exact OwnL.dom r a m
  | _, _, _, .dic h l r, a, m => by
    rcases List.mem_cons.mp m with rfl | m
    · rw [h]; exact fun z => by cases z
    · exact OwnL.dom r a m
  | _, _, _, .dit h l r, a, m => by
    rcases List.mem_cons.mp m with rfl | m
    · rw [h]; exact fun z => by cases z
    · exact OwnL.dom r a m
theorem OwnL.dom : ∀ {F : List Addr} {vs : List V} {ds : List D}, OwnL K Hn H F vs ds → ∀ a ∈ F, H a ≠ none
  | _, _, _, .nil, a, m => by cases m
  | _, _, _, .cons h r, a, m => by
    rcases List.mem_append.mp m with m | m
    · exact Own.dom h a m
    · exact OwnL.dom r a m
end
mutual
/-- what is owned is read, in any heap that holds its objects -/
theorem Own.rp {G : Hp} (en : Ex Hn G) : ∀ {F : List Addr} {v : V} {d : D}, Own K Hn H F v d → (∀ a ∈ F, ∀ o, H a = some o → G a = some o) → Rp K true G v d
  | _, _, _, .leaf h, _ => h.mono en
  | _, _, _, .lst h r, e => .lst (e _ List.mem_cons_self _ h) (OwnL.rp en r fun a m => e a (List.mem_cons_of_mem _ m))
  | _, _, _, .tup h r, e => .tup (e _ List.mem_cons_self _ h) (OwnL.rp en r fun a m => e a (List.mem_cons_of_mem _ m))
  | _, _, _, .dic h l r, e => .dic (e _ List.mem_cons_self _ h) l (OwnL.rp en r fun a m => e a (List.mem_cons_of_mem _ m))
  | _, _, _, .dit h l r, e => .dit (.inl (e _ List.mem_cons_self _ h)) l (OwnL.rp en r fun a m => e a (List.mem_cons_of_mem _ m))
theorem OwnL.rp {G : Hp} (en : Ex Hn G) : ∀ {F : List Addr} {vs : List V} {ds : List D}, OwnL K Hn H F vs ds → (∀ a ∈ F, ∀ o, H a = some o → G a = some o) → RpL K true G vs ds
  | _, _, _, .nil, _ => .nil
  | _, _, _, .cons h r, e => .cons (Own.rp en h fun a m => e a (List.mem_append_left _ m)) (OwnL.rp en r fun a m => e a (List.mem_append_right _ m))
end
theorem ownL_of : ∀ {vs : List V} {ds : List D}, RpL K true Hn vs ds → OwnL K Hn H [] vs ds
  | _, _, .nil => .nil
  | _, _, .cons h r => OwnL.cons (F := []) (.leaf h) (ownL_of r)
theorem OwnL.leafs : ∀ {F : List Addr} {vs : List V} {ds : List D}, OwnL K Hn H F vs ds → F = [] → RpL K true Hn vs ds
  | _, _, _, .nil, _ => .nil
  | _, _, _, .cons (F := F1) h r, e => by
    obtain ⟨e1, e2⟩ := List.append_eq_nil_iff.mp e
    subst e1
    cases h with
    | leaf h => exact .cons h (OwnL.leafs r e2)
end
end MV
namespace MV
open PySem L2
abbrev PEnv := List (Option D)
inductive Res (α : Type) where
  | ok (a : α) (e : PEnv)
  | ex (c : Str) (e : PEnv)
  | stuck
abbrev M (α : Type) := PEnv → Res α
def bnd {α β : Type} (m : M α) (k : α → M β) : M β := fun e => match m e with
  | .ok a e' => k a e'
  | .ex c e' => .ex c e'
  | .stuck => .stuck
def ret {α : Type} (a : α) : M α := fun e => .ok a e
def lift {α : Type} (o : Option α) : M α := fun e => match o with
  | some a => .ok a e
  | none => .stuck
def fail {α : Type} : M α := fun _ => .stuck
inductive FR where
  | ok (d : D) (io : D)
  | ex (c : Str) (io : D)
  | stuck
inductive Fl where
  | nx
  | rt (d : D)
  | bk
  | ct
def envOf (n : Nat) (ds : List D) : PEnv := ds.map some ++ List.replicate (n - ds.length) none
def ioOf (e : PEnv) : D := match e with
  | some d :: _ => d
  | _ => .non
def runF (n : Nat) (g : M Fl) : List D → FR := fun ds => match g (envOf n ds) with
  | .ok (.rt d) e => .ok d (ioOf e)
  | .ok .nx e => .ok .non (ioOf e)
  | .ex c e => .ex c (ioOf e)
  | _ => .stuck
inductive Kd where
  | S | N | M | W | Q | P
  deriving DecidableEq
structure Cf where
  K : PySem.W.Frag
  kd : Nat → Kd
  cv : Str → Value
structure Rs where
  H0 : Hp
  io : Option Addr
def emp : Hp := fun _ => none
def TH (G : Hp) : Hp := fun a => match G a with
  | some (.tup xs) => some (.tup xs)
  | _ => none
theorem th_some {G : Hp} {a : Addr} {o : HO} (h : TH G a = some o) : ∃ xs, o = .tup xs ∧ G a = some (.tup xs) := by
  unfold TH at h
  split at h
  · rename_i xs q; cases h; exact ⟨xs, rfl, q⟩
  · cases h
theorem th_tup {G : Hp} {a : Addr} {xs : List V} (h : G a = some (.tup xs)) : TH G a = some (.tup xs) := by unfold TH; rw [h]
theorem th_mono {G G' : Hp} (e : Ex G G') : Ex (TH G) (TH G') := fun a o h => by
  obtain ⟨xs, rfl, q⟩ := th_some h
  exact th_tup (e _ _ q)
theorem th_sub {G : Hp} : Ex (TH G) G := fun a o h => by
  obtain ⟨xs, rfl, q⟩ := th_some h
  exact q
def SlotR (K : PySem.W.Frag) (R : Rs) (Hs H : Hp) (F : List Addr) : Kd → V → D → Prop
  | .Q, v, d => Rp K false Hs v d
  | .S, v, d => Rp K true Hs v d
  | .P, v, d => Own K (TH (rs Hs R.H0)) H F v d
  | .N, v, d => Rp K true (rs Hs R.H0) v d
  | .M, v, d => Own K (rs Hs R.H0) H F v d ∧ (F = [] → d.sc = true) ∧ F.length ≤ 1
  | .W, v, d => ∃ p xs ds, v = .ref p ∧ d = .lst ds ∧ F = [p] ∧ H p = some (.lst xs) ∧ ds.all D.sc = true ∧ RpL K true emp xs ds
structure Rel (cf : Cf) (R : Rs) (Hs : Hp) (env : PEnv) (σ : L2.St) (H : Hp) (F : Nat → List Addr) (wf : List Addr) : Prop where
  len : env.length = σ.length
  exs : Ex Hs H
  ex0 : ∀ a o, R.H0 a = some o → R.io ≠ some a → Hs a = some o
  dom0 : ∀ a, R.H0 a ≠ none → H a ≠ none
  slot : ∀ i d, env[i]? = some (some d) → ∃ v, σ[i]? = some (some v) ∧ SlotR cf.K R Hs H (F i) (cf.kd i) v d
  nod : ∀ i, (F i).Nodup
  dis : ∀ i j, i ≠ j → ∀ a, a ∈ F i → a ∉ F j
  fdom : ∀ i a, a ∈ F i → H a ≠ none
  uns : ∀ i a, a ∈ F i → Hs a = none
  new : ∀ i a, a ∈ F i → R.io = some a ∨ R.H0 a = none
  volw : ∀ i, cf.kd i = .W → ∀ a, a ∈ F i → a ∈ wf
  volb : ∀ i, cf.kd i ≠ .W → ∀ a, a ∈ F i → a ∉ wf
  wdom : ∀ a, a ∈ wf → H a ≠ none ∧ Hs a = none
  ior : ∀ p, R.io = some p → σ[0]? = some (some (.ref p)) ∧ F 0 = [p] ∧ cf.kd 0 = .W ∧ ∃ d, env[0]? = some (some d)
inductive Cls where
  | V | N | S | L | B
def rg (c : Cls) (H0 Hs Hst H : Hp) (wf : List Addr) : Hp := match c with
  | .V => rs Hs Hst
  | .N => rs Hs H0
  | .S => Hs
  | .L => rs (rm H wf) H0
  | .B => rm H wf
structure Stp (cf : Cf) (wf : List Addr) (env : PEnv) (Hs H : Hp) (env' : PEnv) (Hs' H' : Hp) : Prop where
  dom : ∀ a, H a ≠ none → H' a ≠ none
  ex : Ex Hs Hs'
  keep : ∀ a o, a ∉ wf → H a = some o → H' a = some o
  same : ∀ a, H a ≠ none → Hs' a = Hs a
  kp : ∀ i, cf.kd i ≠ .W → env'[i]? = env[i]?
section
variable {cf : Cf} {wf : List Addr} {env env1 env2 : PEnv} {Hs H Hs1 H1 Hs2 H2 H' : Hp}
theorem Stp.refl : Stp cf wf env Hs H env Hs H := ⟨fun _ h => h, Ex.refl _, fun _ _ _ h => h, fun _ _ => rfl, fun _ _ => rfl⟩
theorem Stp.trans (a : Stp cf wf env Hs H env1 Hs1 H1) (b : Stp cf wf env1 Hs1 H1 env2 Hs2 H2) : Stp cf wf env Hs H env2 Hs2 H2 :=
  ⟨fun x h => b.dom x (a.dom x h), a.ex.trans b.ex, fun x o hw h => b.keep x o hw (a.keep x o hw h), fun x h => (b.same x (a.dom x h)).trans (a.same x h), fun i h => (b.kp i h).trans (a.kp i h)⟩
theorem Stp.grow (e : Ex Hs H) (x : Ex H H') : Stp cf wf env Hs H env (grow Hs H H') H' :=
  ⟨fun a h => x.dom h, Ex.grow e x, fun a o _ h => x a o h, fun a h => by
    cases q : H a with
    | none => exact absurd q h
    | some o => exact grow_some q, fun _ _ => rfl⟩
end
theorem rg_step {c : Cls} {H0 Hs Hst H Hs' H' : Hp} {wf : List Addr} {cf : Cf} {env env' : PEnv} (s : Stp cf wf env Hs H env' Hs' H') : Ex (rg c H0 Hs Hst H wf) (rg c H0 Hs' Hst H' wf) := by
  have hb : Ex (rm H wf) (rm H' wf) := fun a o h => by
    unfold rm at h ⊢
    split at h
    · cases h
    · rename_i hw; rw [if_neg hw]; exact s.keep a o hw h
  cases c with
  | V => exact rs_mono s.ex
  | N => exact rs_mono s.ex
  | S => exact s.ex
  | L => exact rs_mono hb
  | B => exact hb
theorem rg_start {c : Cls} {H0 Hs Hst Hst' H : Hp} {wf : List Addr} (d : ∀ a, Hst a ≠ none → Hst' a ≠ none) : Ex (rg c H0 Hs Hst' H wf) (rg c H0 Hs Hst H wf) := by
  cases c with
  | V =>
    intro a o h
    have h : rs Hs Hst' a = some o := h
    show rs Hs Hst a = some o
    cases q : Hst a with
    | none =>
      rw [rs_none q]
      exact rs_sub _ _ a o h
    | some u =>
      have : Hst' a ≠ none := d a (by rw [q]; exact fun z => by cases z)
      cases q' : Hst' a with
      | none => exact absurd q' this
      | some u' => rw [rs_some q'] at h; cases h
  | N => exact Ex.refl _
  | S => exact Ex.refl _
  | L => exact Ex.refl _
  | B => exact Ex.refl _
theorem rg_sub {c : Cls} {H0 Hs Hst H : Hp} {wf : List Addr} (e : Ex Hs H) : Ex (rg c H0 Hs Hst H wf) H := by
  cases c with
  | V => exact (rs_sub _ _).trans e
  | N => exact (rs_sub _ _).trans e
  | S => exact e
  | L => exact (rs_sub _ _).trans (rm_sub _ _)
  | B => exact rm_sub _ _
theorem rg_grow {c : Cls} {H0 Hs Hst H H' : Hp} {wf : List Addr} (d0 : ∀ a, H0 a ≠ none → H a ≠ none) (ds : ∀ a, Hst a ≠ none → H a ≠ none) (dw : ∀ a, a ∈ wf → H a ≠ none) (es : Ex Hs H) (x : Ex H H') :
    Ex (grow (rg c H0 Hs Hst H wf) H H') (rg c H0 (grow Hs H H') Hst H' wf) := by
  intro a o h
  cases q : H a with
  | none =>
    rw [grow_none q] at h
    have h0 : H0 a = none := by
      cases z : H0 a with
      | none => rfl
      | some u => exact absurd q (d0 a (by rw [z]; exact fun y => by cases y))
    have hs : Hst a = none := by
      cases z : Hst a with
      | none => rfl
      | some u => exact absurd q (ds a (by rw [z]; exact fun y => by cases y))
    have hw : a ∉ wf := fun m => dw a m q
    cases c with
    | V => show rs (grow Hs H H') Hst a = some o; rw [rs_none hs, grow_none q]; exact h
    | N => show rs (grow Hs H H') H0 a = some o; rw [rs_none h0, grow_none q]; exact h
    | S => show grow Hs H H' a = some o; rw [grow_none q]; exact h
    | L => show rs (rm H' wf) H0 a = some o; rw [rs_none h0]; unfold rm; rw [if_neg hw]; exact h
    | B => show rm H' wf a = some o; unfold rm; rw [if_neg hw]; exact h
  | some u =>
    rw [grow_some q] at h
    exact rg_step (cf := ⟨default, fun _ => .S, fun _ => .none⟩) (env := []) (Stp.grow es x) a o h
inductive Cls.Le : Cls → Cls → Prop
  | rfl (c) : Cls.Le c c
  | vn : Cls.Le .V .N
  | vs : Cls.Le .V .S
  | vl : Cls.Le .V .L
  | vb : Cls.Le .V .B
  | ns : Cls.Le .N .S
  | nl : Cls.Le .N .L
  | nb : Cls.Le .N .B
  | sb : Cls.Le .S .B
  | lb : Cls.Le .L .B
theorem rg_le {c c' : Cls} (l : Cls.Le c c') {H0 Hs Hst H : Hp} {wf : List Addr} (es : Ex Hs H) (d0 : ∀ a, H0 a ≠ none → Hst a ≠ none) (w : ∀ a, a ∈ wf → Hs a = none) : Ex (rg c H0 Hs Hst H wf) (rg c' H0 Hs Hst H wf) := by
  have sb : Ex Hs (rm H wf) := fun a o h => by
    unfold rm
    rw [if_neg (fun m => by rw [w a m] at h; cases h)]
    exact es a o h
  have vn : Ex (rs Hs Hst) (rs Hs H0) := fun a o h => by
    cases q : H0 a with
    | none => rw [rs_none q]; exact rs_sub _ _ a o h
    | some u =>
      have : Hst a ≠ none := d0 a (by rw [q]; exact fun y => by cases y)
      cases q' : Hst a with
      | none => exact absurd q' this
      | some u' => rw [rs_some q'] at h; cases h
  have nl : Ex (rs Hs H0) (rs (rm H wf) H0) := rs_mono sb
  cases l with
  | rfl => exact Ex.refl _
  | vn => exact vn
  | vs => exact vn.trans (rs_sub _ _)
  | vl => exact vn.trans nl
  | vb => exact (vn.trans nl).trans (rs_sub _ _)
  | ns => exact rs_sub _ _
  | nl => exact nl
  | nb => exact nl.trans (rs_sub _ _)
  | sb => exact sb
  | lb => exact rs_sub _ _
section
variable {cf : Cf} {R : Rs} {Hs H H' : Hp} {env : PEnv} {σ : L2.St} {F : Nat → List Addr} {wf : List Addr}
theorem Rel.grow (r : Rel cf R Hs env σ H F wf) (x : Ex H H') : Rel cf R (grow Hs H H') env σ H' F wf where
  len := r.len
  exs := grow_sub r.exs x
  ex0 := fun a o h n => (Ex.grow r.exs x) a o (r.ex0 a o h n)
  dom0 := fun a h => x.dom (r.dom0 a h)
  slot := fun i d h => by
    obtain ⟨v, h1, h2⟩ := r.slot i d h
    refine ⟨v, h1, ?_⟩
    cases q : cf.kd i with
    | S => rw [q] at h2; exact Rp.mono (Ex.grow r.exs x) h2
    | Q => rw [q] at h2; exact Rp.mono (Ex.grow r.exs x) h2
    | P => rw [q] at h2; exact Own.mono (th_mono (rs_mono (Ex.grow r.exs x))) x h2
    | N => rw [q] at h2; exact Rp.mono (rs_mono (Ex.grow r.exs x)) h2
    | M => rw [q] at h2; exact ⟨Own.mono (rs_mono (Ex.grow r.exs x)) x h2.1, h2.2⟩
    | W =>
      rw [q] at h2
      obtain ⟨p, xs, ds, e1, e2, e3, e4, e5⟩ := h2
      exact ⟨p, xs, ds, e1, e2, e3, x _ _ e4, e5⟩
  nod := r.nod
  dis := r.dis
  fdom := fun i a h => x.dom (r.fdom i a h)
  uns := fun i a h => by
    have hd := r.fdom i a h
    cases q : H a with
    | none => exact absurd q hd
    | some o => rw [grow_some q]; exact r.uns i a h
  new := r.new
  volw := r.volw
  volb := r.volb
  wdom := fun a h => by
    obtain ⟨h1, h2⟩ := r.wdom a h
    refine ⟨x.dom h1, ?_⟩
    cases q : H a with
    | none => exact absurd q h1
    | some o => rw [grow_some q]; exact h2
  ior := r.ior
end
def Nr (K : PySem.W.Frag) (n : Bool) (Hst Hs' : Hp) (v : V) (d : D) : Prop := n = true → d.flat = true → Rp K true (rs Hs' Hst) v d
def Sd (cf : Cf) (W : WX) (c : Cls) (n : Bool) (te : TE) (f : M D) : Prop :=
  ∀ (R : Rs) (Hs : Hp) (env : PEnv) (σ : L2.St) (H : Hp) (F : Nat → List Addr) (wf : List Addr), Rel cf R Hs env σ H F wf → ∀ Q : VK,
    match f env with
    | .ok d env' => (∀ v Hs' H', Stp cf wf env Hs H env' Hs' H' → Rel cf R Hs' env' σ H' F wf → Rp cf.K true (rg c R.H0 Hs' H H' wf) v d → Nr cf.K n H Hs' v d → Q v H') → te σ H Q
    | .ex x env' => (∀ Hs' H', Stp cf wf env Hs H env' Hs' H' → Rel cf R Hs' env' σ H' F wf → W (cf.cv x) none σ H') → te σ H Q
    | .stuck => True
def SdT (cf : Cf) (W : WX) (tt : TT) (f : M Bool) : Prop :=
  ∀ (R : Rs) (Hs : Hp) (env : PEnv) (σ : L2.St) (H : Hp) (F : Nat → List Addr) (wf : List Addr), Rel cf R Hs env σ H F wf → ∀ Q : Bool → Hp → Prop,
    match f env with
    | .ok b env' => (∀ Hs' H', Stp cf wf env Hs H env' Hs' H' → Rel cf R Hs' env' σ H' F wf → Q b H') → tt σ H Q
    | .ex x env' => (∀ Hs' H', Stp cf wf env Hs H env' Hs' H' → Rel cf R Hs' env' σ H' F wf → W (cf.cv x) none σ H') → tt σ H Q
    | .stuck => True
def SdA (cf : Cf) (W : WX) (c : Cls) (ta : TA) (f : M (List D)) : Prop :=
  ∀ (R : Rs) (Hs : Hp) (env : PEnv) (σ : L2.St) (H : Hp) (F : Nat → List Addr) (wf : List Addr), Rel cf R Hs env σ H F wf → ∀ Q : List V → Hp → Prop,
    match f env with
    | .ok ds env' => (∀ vs Hs' H', Stp cf wf env Hs H env' Hs' H' → Rel cf R Hs' env' σ H' F wf → RpL cf.K true (rg c R.H0 Hs' H H' wf) vs ds → Q vs H') → ta σ H Q
    | .ex x env' => (∀ Hs' H', Stp cf wf env Hs H env' Hs' H' → Rel cf R Hs' env' σ H' F wf → W (cf.cv x) none σ H') → ta σ H Q
    | .stuck => True
def Post (cf : Cf) (W : WX) (R : Rs) (Hs : Hp) (D : Ends) : Res Fl → Prop
  | .ok .nx env' => ∀ Hs' σ' H' F' wf', Ex Hs Hs' → Rel cf R Hs' env' σ' H' F' wf' → D.nx σ' H'
  | .ok (.rt d) env' => ∀ v Hs' σ' H' F' wf', Ex Hs Hs' → Rel cf R Hs' env' σ' H' F' wf' → Rp cf.K true (rs (rm H' wf') R.H0) v d → D.rt v H'
  | .ok .bk env' => ∀ Hs' σ' H' F' wf', Ex Hs Hs' → Rel cf R Hs' env' σ' H' F' wf' → D.bk σ' H'
  | .ok .ct env' => ∀ Hs' σ' H' F' wf', Ex Hs Hs' → Rel cf R Hs' env' σ' H' F' wf' → D.ct σ' H'
  | .ex x env' => ∀ Hs' σ' H' F' wf', Ex Hs Hs' → Rel cf R Hs' env' σ' H' F' wf' → W (cf.cv x) none σ' H'
  | .stuck => False
def SdS (cf : Cf) (W : WX) (ts : TS) (g : M Fl) : Prop :=
  ∀ (R : Rs) (Hs : Hp) (env : PEnv) (σ : L2.St) (H : Hp) (F : Nat → List Addr) (wf : List Addr), Rel cf R Hs env σ H F wf → ∀ D : Ends, Post cf W R Hs D (g env) → ts D σ H
structure SE (X : Cx) (cf : Cf) (W : WX) (c : Cls) (n : Bool) (e : Expr) (t : TE) (f : M D) : Prop where
  p : PE X e t
  s : Sd cf W c n t f
structure ST (X : Cx) (cf : Cf) (W : WX) (e : Expr) (t : TT) (f : M Bool) : Prop where
  p : PT X e t
  s : SdT cf W t f
structure SW (X : Cx) (cf : Cf) (W : WX) (e : Expr) (t : TT) (f : M Bool) : Prop where
  p : PW X e t
  s : SdT cf W t f
structure SA (X : Cx) (cf : Cf) (W : WX) (c : Cls) (es : List Expr) (t : TA) (f : M (List D)) : Prop where
  p : PA X es t
  s : SdA cf W c t f
def SS (X : Cx) (cf : Cf) (W : WX) (st : Stmt) (g : M Fl) : Prop := ∃ t, PS X st t ∧ SdS cf W t g
def SSs (X : Cx) (cf : Cf) (W : WX) (st : List Stmt) (g : M Fl) : Prop := ∃ t, PSs X st t ∧ SdS cf W t g
theorem Sd.le {cf : Cf} {W : WX} {c c' : Cls} {n : Bool} {te : TE} {f : M D} (h : Sd cf W c n te f) (l : Cls.Le c c') : Sd cf W c' n te f := by
  intro R Hs env σ H F wf r Q
  have h := h R Hs env σ H F wf r Q
  cases q : f env with
  | ok d env' =>
    rw [q] at h
    intro k
    refine h fun v Hs' H' s r' p nr => k v Hs' H' s r' (p.mono (rg_le l r'.exs r.dom0 fun a m => (r'.wdom a m).2)) nr
  | ex x env' => rw [q] at h; exact h
  | stuck => trivial
theorem SE.le {X : Cx} {cf : Cf} {W : WX} {c c' : Cls} {n : Bool} {e : Expr} {te : TE} {f : M D} (h : SE X cf W c n e te f) (l : Cls.Le c c') : SE X cf W c' n e te f := ⟨h.p, h.s.le l⟩
theorem Cls.leB (c : Cls) : Cls.Le c .B := by
  cases c with
  | V => exact .vb
  | N => exact .nb
  | S => exact .sb
  | L => exact .lb
  | B => exact .rfl _
theorem Sd.b {cf : Cf} {W : WX} {c : Cls} {n : Bool} {te : TE} {f : M D} (h : Sd cf W c n te f) : Sd cf W .B n te f := h.le (Cls.leB c)
theorem SE.b {X : Cx} {cf : Cf} {W : WX} {c : Cls} {n : Bool} {e : Expr} {te : TE} {f : M D} (h : SE X cf W c n e te f) : SE X cf W .B n e te f := h.le (Cls.leB c)
def ScF (f : M D) : Prop := ∀ env d env', f env = .ok d env' → d.sc = true
theorem Sd.low {cf : Cf} {W : WX} {c c' : Cls} {n n' : Bool} {te : TE} {f : M D} (s : Sd cf W c n te f) (hs : ScF f) : Sd cf W c' n' te f := by
  intro R Hs env σ H F wf r Q
  have h := s R Hs env σ H F wf r Q
  cases q : f env with
  | ok d env' =>
    rw [q] at h
    exact fun k => h fun v Hs' H' st r' p nr => k v Hs' H' st r' (p.sc_any (hs _ _ _ q) _ _) fun _ _ => p.sc_any (hs _ _ _ q) _ _
  | ex x env' => rw [q] at h; exact h
  | stuck => trivial
theorem SE.low {X : Cx} {cf : Cf} {W : WX} {c c' : Cls} {n n' : Bool} {e : Expr} {te : TE} {f : M D} (h : SE X cf W c n e te f) (hs : ScF f) : SE X cf W c' n' e te f := ⟨h.p, h.s.low hs⟩
def eF (f : M D) : M D := bnd f fun d => lift (if d.flat then some d else none)
theorem SE.flat {X : Cx} {cf : Cf} {W : WX} {c : Cls} {e : Expr} {te : TE} {f : M D} (h : SE X cf W c true e te f) : SE X cf W .V true e te (eF f) := by
  obtain ⟨p, s⟩ := h
  refine ⟨p, fun R Hs env σ H F wf r Q => ?_⟩
  have h := s R Hs env σ H F wf r Q
  cases q : f env with
  | ok d env' =>
    rw [q] at h
    cases hf : d.flat with
    | true =>
      have e1 : eF f env = .ok d env' := by simp [eF, bnd, lift, q, hf]
      rw [e1]
      exact fun k => h fun v Hs' H' st r' p nr => k v Hs' H' st r' (nr rfl hf) nr
    | false =>
      have e1 : eF f env = .stuck := by simp [eF, bnd, lift, q, hf]
      rw [e1]
      trivial
  | ex x env' =>
    rw [q] at h
    have e1 : eF f env = .ex x env' := by simp [eF, bnd, q]
    rw [e1]
    exact h
  | stuck =>
    have e1 : eF f env = .stuck := by simp [eF, bnd, q]
    rw [e1]
    trivial
end MV
namespace MV
open PySem L2
section
variable {α β : Type} {m : M α} {k : α → M β} {e e' : PEnv} {b : β} {a : α} {x : Str} {o : Option α}
theorem bnd_ok (h : bnd m k e = .ok b e') : ∃ a e1, m e = .ok a e1 ∧ k a e1 = .ok b e' := by
  unfold bnd at h
  cases q : m e with
  | ok a e1 => rw [q] at h; exact ⟨a, e1, rfl, h⟩
  | ex c e1 => rw [q] at h; cases h
  | stuck => rw [q] at h; cases h
theorem bnd_ex (h : bnd m k e = .ex x e') : m e = .ex x e' ∨ ∃ a e1, m e = .ok a e1 ∧ k a e1 = .ex x e' := by
  unfold bnd at h
  cases q : m e with
  | ok a e1 => rw [q] at h; exact .inr ⟨a, e1, rfl, h⟩
  | ex c e1 => rw [q] at h; exact .inl (show Res.ex c e1 = Res.ex x e' from by cases h; rfl)
  | stuck => rw [q] at h; cases h
theorem bnd_of_ok {e1 : PEnv} (h : m e = .ok a e1) : bnd m k e = k a e1 := by unfold bnd; rw [h]
theorem bnd_of_ex {e1 : PEnv} (h : m e = .ex x e1) : bnd m k e = .ex x e1 := by unfold bnd; rw [h]
theorem bnd_of_stuck (h : m e = .stuck) : bnd m k e = .stuck := by unfold bnd; rw [h]
theorem lift_ok (h : lift o e = .ok a e') : o = some a ∧ e' = e := by
  unfold lift at h
  cases o with
  | none => cases h
  | some z => cases h; exact ⟨rfl, rfl⟩
theorem lift_ex (h : lift o e = .ex x e') : False := by
  unfold lift at h
  cases o with
  | none => cases h
  | some z => cases h
end
section
variable {cf : Cf} {W : WX} {c : Cls} {n : Bool} {te : TE} {f : M D} {R : Rs} {Hs : Hp} {env env' : PEnv} {σ : L2.St} {H : Hp} {F : Nat → List Addr} {wf : List Addr}
theorem Sd.ok (s : Sd cf W c n te f) (r : Rel cf R Hs env σ H F wf) {d : D} (q : f env = .ok d env') {Q : VK} (k : ∀ v Hs' H', Stp cf wf env Hs H env' Hs' H' → Rel cf R Hs' env' σ H' F wf → Rp cf.K true (rg c R.H0 Hs' H H' wf) v d → Nr cf.K n H Hs' v d → Q v H') : te σ H Q := by
  have h := s R Hs env σ H F wf r Q
  rw [q] at h
  exact h k
theorem Sd.exn (s : Sd cf W c n te f) (r : Rel cf R Hs env σ H F wf) {x : Str} (q : f env = .ex x env') {Q : VK} (k : ∀ Hs' H', Stp cf wf env Hs H env' Hs' H' → Rel cf R Hs' env' σ H' F wf → W (cf.cv x) none σ H') : te σ H Q := by
  have h := s R Hs env σ H F wf r Q
  rw [q] at h
  exact h k
theorem Sd.mk (h1 : ∀ R Hs env σ H F wf, Rel cf R Hs env σ H F wf → ∀ d env', f env = .ok d env' → ∀ Q : VK, (∀ v Hs' H', Stp cf wf env Hs H env' Hs' H' → Rel cf R Hs' env' σ H' F wf → Rp cf.K true (rg c R.H0 Hs' H H' wf) v d → Nr cf.K n H Hs' v d → Q v H') → te σ H Q)
    (h2 : ∀ R Hs env σ H F wf, Rel cf R Hs env σ H F wf → ∀ x env', f env = .ex x env' → ∀ Q : VK, (∀ Hs' H', Stp cf wf env Hs H env' Hs' H' → Rel cf R Hs' env' σ H' F wf → W (cf.cv x) none σ H') → te σ H Q) : Sd cf W c n te f := by
  intro R Hs env σ H F wf r Q
  cases q : f env with
  | ok d env' => exact h1 R Hs env σ H F wf r d env' q Q
  | ex x env' => exact h2 R Hs env σ H F wf r x env' q Q
  | stuck => trivial
theorem SdT.ok {tt : TT} {f : M Bool} (s : SdT cf W tt f) (r : Rel cf R Hs env σ H F wf) {d : Bool} (q : f env = .ok d env') {Q : Bool → Hp → Prop} (k : ∀ Hs' H', Stp cf wf env Hs H env' Hs' H' → Rel cf R Hs' env' σ H' F wf → Q d H') : tt σ H Q := by
  have h := s R Hs env σ H F wf r Q
  rw [q] at h
  exact h k
theorem SdT.exn {tt : TT} {f : M Bool} (s : SdT cf W tt f) (r : Rel cf R Hs env σ H F wf) {x : Str} (q : f env = .ex x env') {Q : Bool → Hp → Prop} (k : ∀ Hs' H', Stp cf wf env Hs H env' Hs' H' → Rel cf R Hs' env' σ H' F wf → W (cf.cv x) none σ H') : tt σ H Q := by
  have h := s R Hs env σ H F wf r Q
  rw [q] at h
  exact h k
theorem SdT.mk {tt : TT} {f : M Bool} (h1 : ∀ R Hs env σ H F wf, Rel cf R Hs env σ H F wf → ∀ d env', f env = .ok d env' → ∀ Q : Bool → Hp → Prop, (∀ Hs' H', Stp cf wf env Hs H env' Hs' H' → Rel cf R Hs' env' σ H' F wf → Q d H') → tt σ H Q)
    (h2 : ∀ R Hs env σ H F wf, Rel cf R Hs env σ H F wf → ∀ x env', f env = .ex x env' → ∀ Q : Bool → Hp → Prop, (∀ Hs' H', Stp cf wf env Hs H env' Hs' H' → Rel cf R Hs' env' σ H' F wf → W (cf.cv x) none σ H') → tt σ H Q) : SdT cf W tt f := by
  intro R Hs env σ H F wf r Q
  cases q : f env with
  | ok d env' => exact h1 R Hs env σ H F wf r d env' q Q
  | ex x env' => exact h2 R Hs env σ H F wf r x env' q Q
  | stuck => trivial
theorem SdA.ok {ta : TA} {f : M (List D)} (s : SdA cf W c ta f) (r : Rel cf R Hs env σ H F wf) {d : List D} (q : f env = .ok d env') {Q : List V → Hp → Prop} (k : ∀ vs Hs' H', Stp cf wf env Hs H env' Hs' H' → Rel cf R Hs' env' σ H' F wf → RpL cf.K true (rg c R.H0 Hs' H H' wf) vs d → Q vs H') : ta σ H Q := by
  have h := s R Hs env σ H F wf r Q
  rw [q] at h
  exact h k
theorem SdA.exn {ta : TA} {f : M (List D)} (s : SdA cf W c ta f) (r : Rel cf R Hs env σ H F wf) {x : Str} (q : f env = .ex x env') {Q : List V → Hp → Prop} (k : ∀ Hs' H', Stp cf wf env Hs H env' Hs' H' → Rel cf R Hs' env' σ H' F wf → W (cf.cv x) none σ H') : ta σ H Q := by
  have h := s R Hs env σ H F wf r Q
  rw [q] at h
  exact h k
theorem SdA.mk {ta : TA} {f : M (List D)} (h1 : ∀ R Hs env σ H F wf, Rel cf R Hs env σ H F wf → ∀ d env', f env = .ok d env' → ∀ Q : List V → Hp → Prop, (∀ vs Hs' H', Stp cf wf env Hs H env' Hs' H' → Rel cf R Hs' env' σ H' F wf → RpL cf.K true (rg c R.H0 Hs' H H' wf) vs d → Q vs H') → ta σ H Q)
    (h2 : ∀ R Hs env σ H F wf, Rel cf R Hs env σ H F wf → ∀ x env', f env = .ex x env' → ∀ Q : List V → Hp → Prop, (∀ Hs' H', Stp cf wf env Hs H env' Hs' H' → Rel cf R Hs' env' σ H' F wf → W (cf.cv x) none σ H') → ta σ H Q) : SdA cf W c ta f := by
  intro R Hs env σ H F wf r Q
  cases q : f env with
  | ok d env' => exact h1 R Hs env σ H F wf r d env' q Q
  | ex x env' => exact h2 R Hs env σ H F wf r x env' q Q
  | stuck => trivial
end
def eV (i : Nat) : M D := fun e => match e[i]? with
  | some (some d) => .ok d e
  | _ => .stuck
def eC (d : D) : M D := fun e => .ok d e
theorem eV_ok {i : Nat} {e e' : PEnv} {d : D} (h : eV i e = .ok d e') : e[i]? = some (some d) ∧ e' = e := by
  unfold eV at h
  split at h
  · rename_i d' q; cases h; exact ⟨q, rfl⟩
  · cases h
theorem eV_ex {i : Nat} {e e' : PEnv} {x : Str} (h : eV i e = .ex x e') : False := by
  unfold eV at h
  split at h <;> cases h
section
variable {X : Cx} {cf : Cf} {W : WX}
theorem sd_var {c : Cls} {i : Nat} (hk : ∀ R Hs env σ H F wf, Rel cf R Hs env σ H F wf → ∀ v d, SlotR cf.K R Hs H (F i) (cf.kd i) v d → Rp cf.K true (rg c R.H0 Hs H H wf) v d) : Sd cf W c false (tVar i) (eV i) := by
  refine Sd.mk (fun R Hs env σ H F wf r d env' q Q k => ?_) (fun _ _ _ _ _ _ _ _ _ _ q => (eV_ex q).elim)
  obtain ⟨q, rfl⟩ := eV_ok q
  obtain ⟨v, hv, hs⟩ := r.slot i d q
  exact ⟨v, hv, k v Hs H Stp.refl r (hk R Hs env' σ H F wf r v d hs) fun z => by cases z⟩
theorem se_vS (i : Nat) {e : Expr} (p : PE X e (tVar i)) (hk : cf.kd i = .S) : SE X cf W .S false e (tVar i) (eV i) := ⟨p, sd_var fun R Hs env σ H F wf r v d h => by rw [hk] at h; exact h⟩
theorem se_vN (i : Nat) {e : Expr} (p : PE X e (tVar i)) (hk : cf.kd i = .N) : SE X cf W .N false e (tVar i) (eV i) := ⟨p, sd_var fun R Hs env σ H F wf r v d h => by rw [hk] at h; exact h⟩
theorem Rel.mL {R : Rs} {Hs : Hp} {env : PEnv} {σ : L2.St} {H : Hp} {F : Nat → List Addr} {wf : List Addr} (r : Rel cf R Hs env σ H F wf) {i : Nat} (hk : cf.kd i ≠ .W) : ∀ a ∈ F i, ∀ o, H a = some o → rs (rm H wf) R.H0 a = some o := fun a m o h => by
  have h0 : R.H0 a = none := by
    rcases r.new i a m with z | z
    · obtain ⟨_, hF, hw, _⟩ := r.ior a z
      by_cases e : i = 0
      · subst e; exact absurd hw hk
      · exact absurd (by rw [hF]; exact List.mem_singleton.mpr rfl) (r.dis i 0 e a m)
    · exact z
  rw [rs_none h0]
  unfold rm
  rw [if_neg (r.volb i hk a m)]
  exact h
theorem Rel.nL {R : Rs} {Hs : Hp} {env : PEnv} {σ : L2.St} {H : Hp} {F : Nat → List Addr} {wf : List Addr} (r : Rel cf R Hs env σ H F wf) : Ex (rs Hs R.H0) (rs (rm H wf) R.H0) :=
  rg_le (c := .N) (c' := .L) .nl (Hst := H) r.exs r.dom0 fun a m => (r.wdom a m).2
theorem se_vM (i : Nat) {e : Expr} (p : PE X e (tVar i)) (hk : cf.kd i = .M) : SE X cf W .L false e (tVar i) (eV i) := ⟨p, sd_var fun R Hs env σ H F wf r v d h => by
  rw [hk] at h
  exact Own.rp r.nL h.1 (r.mL (by rw [hk]; exact fun z => by cases z))⟩
theorem sd_C {v : V} {d : D} (h : d.toV = some v) : Sd cf W .V true (tC v) (eC d) :=
  Sd.mk (fun R Hs env σ H F wf r d' env' q Q k => by cases q; exact k v Hs H Stp.refl r (.sc h) fun _ _ => .sc h) (fun _ _ _ _ _ _ _ _ _ _ q => by cases q)
theorem se_int {i : Int} {j : Nat} {pos : Pos} : SE X cf W .V true (.Constant (.int i) j pos) (tC (.int i)) (eC (.int i)) := ⟨pe_int, sd_C rfl⟩
theorem se_bl {b : Bool} {j : Nat} {pos : Pos} : SE X cf W .V true (.Constant (.bool b) j pos) (tC (.bl b)) (eC (.bl b)) := ⟨pe_bl, sd_C rfl⟩
theorem se_non {j : Nat} {pos : Pos} : SE X cf W .V true (.Constant .none j pos) (tC .non) (eC .non) := ⟨pe_non, sd_C rfl⟩
theorem se_str {x : Str} {j : Nat} {pos : Pos} : SE X cf W .V true (.Constant (.str x) j pos) (tC (.str x)) (eC (.str x)) := ⟨pe_str, sd_C rfl⟩
theorem se_glob {e : Expr} {v : V} {d : D} (p : PE X e (tC v)) (h : d.toV = some v) : SE X cf W .V true e (tC v) (eC d) := ⟨p, sd_C h⟩
end
def e1 (g : D → Option D) (a : M D) : M D := bnd a fun x => lift (g x)
def e2 (g : D → D → Option D) (a b : M D) : M D := bnd a fun x => bnd b fun y => lift (g x y)
def eN (g : List D → Option D) (a : M (List D)) : M D := bnd a fun x => lift (g x)
def aNil : M (List D) := ret []
def aCons (a : M D) (r : M (List D)) : M (List D) := bnd a fun x => bnd r fun xs => ret (x :: xs)
def Nn (K : PySem.W.Frag) (n : Bool) (H H' : Hp) (v : V) (d : D) : Prop := n = true → d.flat = true → Rp K true (nw H H') v d
def Snd1 (K : PySem.W.Frag) (n : Bool) (r : V → Hp → VK → Prop) (g : D → Option D) : Prop := ∀ (G H : Hp) (x : V) (d1 d : D), Ex G H → Rp K true G x d1 → g d1 = some d → ∀ Q : VK, (∀ v H', Ex H H' → Rp K true (grow G H H') v d → Nn K n H H' v d → Q v H') → r x H Q
def Snd2 (K : PySem.W.Frag) (n : Bool) (r : R2) (g : D → D → Option D) : Prop := ∀ (G H : Hp) (x y : V) (d1 d2 d : D), Ex G H → Rp K true G x d1 → Rp K true G y d2 → g d1 d2 = some d → ∀ Q : VK, (∀ v H', Ex H H' → Rp K true (grow G H H') v d → Nn K n H H' v d → Q v H') → r x y H Q
def SndN (K : PySem.W.Frag) (n : Bool) (r : List V → Hp → VK → Prop) (g : List D → Option D) : Prop := ∀ (G H : Hp) (xs : List V) (ds : List D) (d : D), Ex G H → RpL K true G xs ds → g ds = some d → ∀ Q : VK, (∀ v H', Ex H H' → Rp K true (grow G H H') v d → Nn K n H H' v d → Q v H') → r xs H Q
theorem nr_of {K : PySem.W.Frag} {n : Bool} {Hst Hs H H' : Hp} {v : V} {d : D} (ds : ∀ a, Hst a ≠ none → H a ≠ none) (h : Nn K n H H' v d) : Nr K n Hst (grow Hs H H') v d := fun z hf => (h z hf).mono fun a o q => by
  cases e : H a with
  | none =>
    rw [nw_none e] at q
    have : Hst a = none := by
      cases z : Hst a with
      | none => rfl
      | some u => exact absurd e (ds a (by rw [z]; exact fun y => by cases y))
    rw [rs_none this, grow_none e]; exact q
  | some u => rw [nw_some e] at q; cases q
section
variable {X : Cx} {cf : Cf} {W : WX} {c : Cls} {n n1 n2 : Bool}
theorem fin_op {R : Rs} {Hs Hs2 : Hp} {env env2 : PEnv} {σ : L2.St} {H H2 H3 : Hp} {F : Nat → List Addr} {wf : List Addr} {v : V} {d : D} (s : Stp cf wf env Hs H env2 Hs2 H2) (r : Rel cf R Hs2 env2 σ H2 F wf) (x : Ex H2 H3) (p : Rp cf.K true (grow (rg c R.H0 Hs2 H H2 wf) H2 H3) v d) (nn : Nn cf.K n H2 H3 v d) {Q : VK}
    (k : ∀ v Hs' H', Stp cf wf env Hs H env2 Hs' H' → Rel cf R Hs' env2 σ H' F wf → Rp cf.K true (rg c R.H0 Hs' H H' wf) v d → Nr cf.K n H Hs' v d → Q v H') : Q v H3 :=
  k v (grow Hs2 H2 H3) H3 (s.trans (Stp.grow r.exs x)) (r.grow x) (p.mono (rg_grow r.dom0 s.dom (fun a m => (r.wdom a m).1) r.exs x)) (nr_of s.dom nn)
theorem sd_op1 {r : V → Hp → VK → Prop} {g : D → Option D} {ta : TE} {fa : M D} (hs : Snd1 cf.K n r g) (ha : Sd cf W c n1 ta fa) : Sd cf W c n (tUn r ta) (e1 g fa) := by
  refine Sd.mk (fun R Hs env σ H F wf r d env' q Q k => ?_) (fun R Hs env σ H F wf r x env' q Q k => ?_)
  · obtain ⟨d1, env1, q1, q⟩ := bnd_ok q
    obtain ⟨qg, rfl⟩ := lift_ok q
    exact ha.ok r q1 fun v Hs1 H1 s1 r1 p1 _ => hs _ H1 v d1 d (rg_sub r1.exs) p1 qg Q fun v2 H2 x p nn => fin_op s1 r1 x p nn k
  · rcases bnd_ex q with q | ⟨d1, env1, q1, q⟩
    · exact ha.exn r q k
    · exact (lift_ex q).elim
theorem sd_op2 {r : R2} {g : D → D → Option D} {ta tb : TE} {fa fb : M D} (hs : Snd2 cf.K n r g) (ha : Sd cf W c n1 ta fa) (hb : Sd cf W c n2 tb fb) : Sd cf W c n (tOp r ta tb) (e2 g fa fb) := by
  refine Sd.mk (fun R Hs env σ H F wf r d env' q Q k => ?_) (fun R Hs env σ H F wf r x env' q Q k => ?_)
  · obtain ⟨d1, env1, q1, q⟩ := bnd_ok q
    obtain ⟨d2, env2, q2, q⟩ := bnd_ok q
    obtain ⟨qg, rfl⟩ := lift_ok q
    exact ha.ok r q1 fun v Hs1 H1 s1 r1 p1 _ => hb.ok r1 q2 fun v2 Hs2 H2 s2 r2 p2 _ =>
      hs (rg c R.H0 Hs2 H H2 wf) H2 v v2 d1 d2 d (rg_sub r2.exs) (p1.mono (rg_step s2)) (p2.mono (rg_start s1.dom)) qg Q fun v3 H3 x p nn => fin_op (s1.trans s2) r2 x p nn k
  · rcases bnd_ex q with q | ⟨d1, env1, q1, q⟩
    · exact ha.exn r q k
    · rcases bnd_ex q with q | ⟨d2, env2, q2, q⟩
      · exact ha.ok r q1 fun v Hs1 H1 s1 r1 p1 _ => hb.exn r1 q fun Hs2 H2 s2 r2 => k Hs2 H2 (s1.trans s2) r2
      · exact (lift_ex q).elim
theorem sd_opN {r : List V → Hp → VK → Prop} {g : List D → Option D} {ta : TA} {fa : M (List D)} (hs : SndN cf.K n r g) (ha : SdA cf W c ta fa) : Sd cf W c n (tCB r ta) (eN g fa) := by
  refine Sd.mk (fun R Hs env σ H F wf r d env' q Q k => ?_) (fun R Hs env σ H F wf r x env' q Q k => ?_)
  · obtain ⟨d1, env1, q1, q⟩ := bnd_ok q
    obtain ⟨qg, rfl⟩ := lift_ok q
    exact ha.ok r q1 fun v Hs1 H1 s1 r1 p1 => hs _ H1 v d1 d (rg_sub r1.exs) p1 qg Q fun v2 H2 x p nn => fin_op s1 r1 x p nn k
  · rcases bnd_ex q with q | ⟨d1, env1, q1, q⟩
    · exact ha.exn r q k
    · exact (lift_ex q).elim
theorem sda_nil : SdA cf W c tNil aNil := SdA.mk (fun R Hs env σ H F wf r d env' q Q k => by cases q; exact k [] Hs H Stp.refl r .nil) (fun _ _ _ _ _ _ _ _ _ _ q => by cases q)
theorem sda_cons {ta : TE} {fa : M D} {tr : TA} {fr : M (List D)} (ha : Sd cf W c n1 ta fa) (hr : SdA cf W c tr fr) : SdA cf W c (tCons ta tr) (aCons fa fr) := by
  refine SdA.mk (fun R Hs env σ H F wf r d env' q Q k => ?_) (fun R Hs env σ H F wf r x env' q Q k => ?_)
  · obtain ⟨d1, env1, q1, q⟩ := bnd_ok q
    obtain ⟨d2, env2, q2, q⟩ := bnd_ok q
    cases q
    exact ha.ok r q1 fun v Hs1 H1 s1 r1 p1 _ => hr.ok r1 q2 fun v2 Hs2 H2 s2 r2 p2 => k (v :: v2) Hs2 H2 (s1.trans s2) r2 (.cons (p1.mono (rg_step s2)) (p2.mono (rg_start s1.dom)))
  · rcases bnd_ex q with q | ⟨d1, env1, q1, q⟩
    · exact ha.exn r q k
    · rcases bnd_ex q with q | ⟨d2, env2, q2, q⟩
      · exact ha.ok r q1 fun v Hs1 H1 s1 r1 p1 _ => hr.exn r1 q fun Hs2 H2 s2 r2 => k Hs2 H2 (s1.trans s2) r2
      · cases q
theorem sa_nil : SA X cf W c [] tNil aNil := ⟨pa_nil, sda_nil⟩
theorem sa_cons {e : Expr} {es : List Expr} {ta : TE} {tr : TA} {fa : M D} {fr : M (List D)} (ha : SE X cf W c n1 e ta fa) (hr : SA X cf W c es tr fr) (hs : starEach (e :: es) X.env = (false, eval e X.env) :: starEach es X.env := by rfl) : SA X cf W c (e :: es) (tCons ta tr) (aCons fa fr) := ⟨pa_cons ha.p hr.p hs, sda_cons ha.s hr.s⟩
def gLst (ds : List D) : Option D := if ds.length ≤ sizeLine then some (.lst ds) else none
def gTupD (ds : List D) : Option D := if ds.length ≤ sizeLine then some (.tup ds) else none
theorem new_rp {K : PySem.W.Frag} {G H : Hp} {p : Addr} {xs : List V} {ds : List D} (e : Ex G H) (hp : H p = none) (h : RpL K true G xs ds) : Rp K true (grow G H (upd H p (.lst xs))) (.ref p) (.lst ds) :=
  .lst (show grow G H (upd H p (.lst xs)) p = _ by rw [grow_none hp, upd_same]) (h.mono (Ex.grow e (Ex.new hp)))
theorem new_nn {K : PySem.W.Frag} {n : Bool} {G H : Hp} {p : Addr} {xs : List V} {ds : List D} (hp : H p = none) (h : RpL K true G xs ds) : Nn K n H (upd H p (.lst xs)) (.ref p) (.lst ds) := fun _ hf =>
  .lst (show nw H (upd H p (.lst xs)) p = _ by rw [nw_none hp, upd_same]) (h.sc_any hf _ _)
theorem newT_rp {K : PySem.W.Frag} {G H : Hp} {p : Addr} {xs : List V} {ds : List D} (e : Ex G H) (hp : H p = none) (h : RpL K true G xs ds) : Rp K true (grow G H (upd H p (.tup xs))) (.ref p) (.tup ds) :=
  .tup (show grow G H (upd H p (.tup xs)) p = _ by rw [grow_none hp, upd_same]) (h.mono (Ex.grow e (Ex.new hp)))
theorem newT_nn {K : PySem.W.Frag} {n : Bool} {G H : Hp} {p : Addr} {xs : List V} {ds : List D} (hp : H p = none) (h : RpL K true G xs ds) : Nn K n H (upd H p (.tup xs)) (.ref p) (.tup ds) := fun _ hf =>
  .tup (show nw H (upd H p (.tup xs)) p = _ by rw [nw_none hp, upd_same]) (h.sc_any hf _ _)
theorem snd_lst {K : PySem.W.Frag} {n : Bool} : SndN K n (fun xs H1 Q => xs.length ≤ sizeLine ∧ ∀ p, H1 p = none → Q (.ref p) (upd H1 p (.lst xs))) gLst := fun G H xs ds d e h q Q k => by
  unfold gLst at q
  split at q
  · cases q
    rename_i hl
    exact ⟨by rw [h.length]; exact hl, fun p hp => k _ _ (Ex.new hp) (new_rp e hp h) (new_nn hp h)⟩
  · cases q
theorem snd_tup {K : PySem.W.Frag} {n : Bool} : SndN K n (fun xs H1 Q => xs.length ≤ sizeLine ∧ ∀ p, H1 p = none → Q (.ref p) (upd H1 p (.tup xs))) gTupD := fun G H xs ds d e h q Q k => by
  unfold gTupD at q
  split at q
  · cases q
    rename_i hl
    exact ⟨by rw [h.length]; exact hl, fun p hp => k _ _ (Ex.new hp) (newT_rp e hp h) (newT_nn hp h)⟩
  · cases q
theorem se_lst {es : List Expr} {ta : TA} {fa : M (List D)} {pos : Pos} (h : SA X cf W c es ta fa) : SE X cf W c true (.List es pos) (tLst ta) (eN gLst fa) := by
  obtain ⟨p, s⟩ := h
  exact ⟨pe_lst p, sd_opN (r := fun xs H1 Q => xs.length ≤ sizeLine ∧ ∀ p, H1 p = none → Q (.ref p) (upd H1 p (.lst xs))) snd_lst s⟩
theorem se_tup {es : List Expr} {ta : TA} {fa : M (List D)} {x1 : Nat} {pos : Pos} (h : SA X cf W c es ta fa) : SE X cf W c true (.Tuple es x1 pos) (tTup ta) (eN gTupD fa) := by
  obtain ⟨p, s⟩ := h
  exact ⟨pe_tup p, sd_opN (r := fun xs H1 Q => xs.length ≤ sizeLine ∧ ∀ p, H1 p = none → Q (.ref p) (upd H1 p (.tup xs))) snd_tup s⟩
theorem se_bin {op : Operator} {r : R2} {g : D → D → Option D} {a b : Expr} {ta tb : TE} {fa fb : M D} {pos : Pos} (ho : OpR X (binaryOp op) r) (hs : Snd2 cf.K n r g) (ha : SE X cf W c n1 a ta fa) (hb : SE X cf W c n2 b tb fb) : SE X cf W c n (.BinOp a op b pos) (tOp r ta tb) (e2 g fa fb) := ⟨pe_op ho ha.p hb.p, sd_op2 hs ha.s hb.s⟩
theorem se_una {op : UnaryOp} {r : V → Hp → VK → Prop} {g : D → Option D} {a : Expr} {ta : TE} {fa : M D} {pos : Pos} (ho : UnR X (unaryOp op) r) (hs : Snd1 cf.K n r g) (ha : SE X cf W c n1 a ta fa) : SE X cf W c n (.UnaryOp op a pos) (tUn r ta) (e1 g fa) := ⟨pe_un ho ha.p, sd_op1 hs ha.s⟩
theorem se_cmp {op : CmpOp} {r : R2} {g : D → D → Option D} {a b : Expr} {ta tb : TE} {fa fb : M D} {pos : Pos} (ho : OpR X (compareOp op) r) (hs : Snd2 cf.K n r g) (ha : SE X cf W c n1 a ta fa) (hb : SE X cf W c n2 b tb fb) (hm : behindInMarks op b = false) : SE X cf W c n (.Compare a [op] [b] pos) (tOp r ta tb) (e2 g fa fb) := ⟨pe_cmpR ho ha.p hb.p hm, sd_op2 hs ha.s hb.s⟩
def asB (d : D) : Option Bool := match d with
  | .bl b => some b
  | _ => none
def tB (f : M D) : M Bool := bnd f fun d => lift (asB d)
theorem asB_some {d : D} {b : Bool} (h : asB d = some b) : d = .bl b := by
  unfold asB at h
  split at h
  · cases h; rfl
  · cases h
theorem sdt_test {te : TE} {f : M D} (h : Sd cf W c n te f) : SdT cf W (tTest te) (tB f) := by
  refine SdT.mk (fun R Hs env σ H F wf r d env' q Q k => ?_) (fun R Hs env σ H F wf r x env' q Q k => ?_)
  · obtain ⟨d1, env1, q1, q⟩ := bnd_ok q
    obtain ⟨qg, rfl⟩ := lift_ok q
    cases asB_some qg
    exact h.ok r q1 fun v Hs1 H1 s1 r1 p1 _ => ⟨d, p1.bl_inv, k Hs1 H1 s1 r1⟩
  · rcases bnd_ex q with q | ⟨d1, env1, q1, q⟩
    · exact h.exn r q k
    · exact (lift_ex q).elim
theorem st_cmp {op : CmpOp} {r : R2} {g : D → D → Option D} {a b : Expr} {ta tb : TE} {fa fb : M D} {pos : Pos} (ho : OpR X (compareOp op) r) (hs : Snd2 cf.K n r g) (ha : SE X cf W c n1 a ta fa) (hb : SE X cf W c n2 b tb fb) (hm : behindInMarks op b = false) : ST X cf W (.Compare a [op] [b] pos) (tTest (tOp r ta tb)) (tB (e2 g fa fb)) := ⟨pt_cmpR ho ha.p hb.p hm, sdt_test (sd_op2 hs ha.s hb.s)⟩
theorem st_val {e : Expr} {te : TE} {f : M D} (h : SE X cf W c n e te f) (he : ∀ whole, isTrue e X.env whole = (do let v ← whole; standAt e.pos; holding [v] (truthy v)) := by intro _; rfl) : ST X cf W e (L2.tB te) (tB f) := ⟨pt_val h.p he, sdt_test h.s⟩
def tAnd2 (a b : M Bool) : M Bool := bnd a fun x => if x then b else ret false
def tOr2 (a b : M Bool) : M Bool := bnd a fun x => if x then ret true else b
def tNot1 (a : M Bool) : M Bool := bnd a fun x => ret (!x)
theorem sdt_and {ta tb : TT} {fa fb : M Bool} (ha : SdT cf W ta fa) (hb : SdT cf W tb fb) : SdT cf W (tAnd ta tb) (tAnd2 fa fb) := by
  refine SdT.mk (fun R Hs env σ H F wf r d env' q Q k => ?_) (fun R Hs env σ H F wf r x env' q Q k => ?_)
  · obtain ⟨d1, env1, q1, q⟩ := bnd_ok q
    refine ha.ok r q1 fun Hs1 H1 s1 r1 => ?_
    cases d1 with
    | true => exact hb.ok r1 q fun Hs2 H2 s2 r2 => k Hs2 H2 (s1.trans s2) r2
    | false => cases q; exact k Hs1 H1 s1 r1
  · rcases bnd_ex q with q | ⟨d1, env1, q1, q⟩
    · exact ha.exn r q k
    · refine ha.ok r q1 fun Hs1 H1 s1 r1 => ?_
      cases d1 with
      | true => exact hb.exn r1 q fun Hs2 H2 s2 r2 => k Hs2 H2 (s1.trans s2) r2
      | false => cases q
theorem sdt_or {ta tb : TT} {fa fb : M Bool} (ha : SdT cf W ta fa) (hb : SdT cf W tb fb) : SdT cf W (tOr ta tb) (tOr2 fa fb) := by
  refine SdT.mk (fun R Hs env σ H F wf r d env' q Q k => ?_) (fun R Hs env σ H F wf r x env' q Q k => ?_)
  · obtain ⟨d1, env1, q1, q⟩ := bnd_ok q
    refine ha.ok r q1 fun Hs1 H1 s1 r1 => ?_
    cases d1 with
    | false => exact hb.ok r1 q fun Hs2 H2 s2 r2 => k Hs2 H2 (s1.trans s2) r2
    | true => cases q; exact k Hs1 H1 s1 r1
  · rcases bnd_ex q with q | ⟨d1, env1, q1, q⟩
    · exact ha.exn r q k
    · refine ha.ok r q1 fun Hs1 H1 s1 r1 => ?_
      cases d1 with
      | false => exact hb.exn r1 q fun Hs2 H2 s2 r2 => k Hs2 H2 (s1.trans s2) r2
      | true => cases q
theorem sdt_not {ta : TT} {fa : M Bool} (ha : SdT cf W ta fa) : SdT cf W (tNot ta) (tNot1 fa) := by
  refine SdT.mk (fun R Hs env σ H F wf r d env' q Q k => ?_) (fun R Hs env σ H F wf r x env' q Q k => ?_)
  · obtain ⟨d1, env1, q1, q⟩ := bnd_ok q
    cases q
    exact ha.ok r q1 k
  · rcases bnd_ex q with q | ⟨d1, env1, q1, q⟩
    · exact ha.exn r q k
    · cases q
theorem sw_and1 {a : Expr} {ta : TT} {fa : M Bool} {pos : Pos} (h : ST X cf W a ta fa) : SW X cf W (.BoolOp .And [a] pos) ta fa := ⟨pw_and1 h.p, h.s⟩
theorem sw_or1 {a : Expr} {ta : TT} {fa : M Bool} {pos : Pos} (h : ST X cf W a ta fa) : SW X cf W (.BoolOp .Or [a] pos) ta fa := ⟨pw_or1 h.p, h.s⟩
theorem sw_and {a b : Expr} {rest : List Expr} {ta tb : TT} {fa fb : M Bool} {pos : Pos} (h : ST X cf W a ta fa) (h2 : SW X cf W (.BoolOp .And (b :: rest) pos) tb fb) : SW X cf W (.BoolOp .And (a :: b :: rest) pos) (tAnd ta tb) (tAnd2 fa fb) := ⟨pw_and h.p h2.p, sdt_and h.s h2.s⟩
theorem sw_or {a b : Expr} {rest : List Expr} {ta tb : TT} {fa fb : M Bool} {pos : Pos} (h : ST X cf W a ta fa) (h2 : SW X cf W (.BoolOp .Or (b :: rest) pos) tb fb) : SW X cf W (.BoolOp .Or (a :: b :: rest) pos) (tOr ta tb) (tOr2 fa fb) := ⟨pw_or h.p h2.p, sdt_or h.s h2.s⟩
theorem SW.st {e : Expr} {ta : TT} {f : M Bool} (h : SW X cf W e ta f) : ST X cf W e ta f := ⟨h.p.pt, h.s⟩
theorem st_not {a : Expr} {ta : TT} {fa : M Bool} {pos : Pos} (h : ST X cf W a ta fa) : ST X cf W (.UnaryOp .Not a pos) (tNot ta) (tNot1 fa) := ⟨pt_not h.p, sdt_not h.s⟩
def eAndV (a b : M D) : M D := bnd a fun x => bnd (lift (asB x)) fun k => if k then b else ret (.bl false)
def eOrV (a b : M D) : M D := bnd a fun x => bnd (lift (asB x)) fun k => if k then ret (.bl true) else b
def eNotV (a : M D) : M D := bnd a fun x => bnd (lift (asB x)) fun k => ret (.bl (!k))
def eIfE (t : M Bool) (a b : M D) : M D := bnd t fun k => if k then a else b
theorem se_one {op} {a : Expr} {ta : TE} {fa : M D} {pos : Pos} (h : SE X cf W c n a ta fa) : SE X cf W c n (.BoolOp op [a] pos) ta fa := ⟨pe_one h.p, h.s⟩
theorem se_cb {id : String} {r : List V → Hp → VK → Prop} {g : List D → Option D} {x : Str} {e : Expr} {es : List Expr} {ta : TA} {fa : M (List D)} {p pos : Pos} (hc : CallR X (.builtin id) r) (hs : SndN cf.K n r g) (hg : Gl X x) (hm : X.mg x = none) (hv : bootBuiltins x = some (.builtin id)) (ha : SA X cf W c (e :: es) ta fa)
    (hn : x ≠ "__name__" := by decide) (hdb : (x == ("__debug__" : Str)) = false := by decide) (he : starEach (e :: es) X.env = (false, eval e X.env) :: starEach es X.env := by rfl) (hpl : (backTo pos (starEach es X.env)).any (·.1) = false := by rfl) :
    SE X cf W c n (.Call (.Name x p) (e :: es) [] pos) (tCB r ta) (eN g fa) := ⟨pe_callB hc hg hm hv ha.p hn hdb he hpl, sd_opN hs ha.s⟩
theorem se_ct {T : String} {r : List V → Hp → VK → Prop} {g : List D → Option D} {x : Str} {e : Expr} {es : List Expr} {ta : TA} {fa : M (List D)} {p pos : Pos} (hc : CallR X (.type T) r) (hs : SndN cf.K n r g) (hg : Gl X x) (hm : X.mg x = none) (hv : bootBuiltins x = some (.type T)) (ha : SA X cf W c (e :: es) ta fa)
    (hn : x ≠ "__name__" := by decide) (hdb : (x == ("__debug__" : Str)) = false := by decide) (he : starEach (e :: es) X.env = (false, eval e X.env) :: starEach es X.env := by rfl) (hpl : (backTo pos (starEach es X.env)).any (·.1) = false := by rfl) :
    SE X cf W c n (.Call (.Name x p) (e :: es) [] pos) (tCB r ta) (eN g fa) := ⟨pe_callTy hc hg hm hv ha.p hn hdb he hpl, sd_opN hs ha.s⟩
end
end MV
namespace MV
open PySem L2
abbrev LIM : Nat := 100000
theorem lim_sz {n : Nat} (h : n ≤ LIM) : n ≤ sizeLine := Nat.le_trans h (by decide)
theorem lim_lt {n : Nat} (h : n < LIM) : n < sizeLine := Nat.lt_of_lt_of_le h (by decide)
section
variable {K : PySem.W.Frag} {G H : Hp} {n : Bool} {d : D} {v : V} {Q : VK}
theorem k_sc (k : ∀ v H', Ex H H' → Rp K true (grow G H H') v d → Nn K n H H' v d → Q v H') (h : d.toV = some v) : Q v H := k v H (Ex.refl H) (.sc h) fun _ _ => .sc h
end
def gI2 (f : Int → Int → Option D) : D → D → Option D
  | .int i, .int j => f i j
  | _, _ => none
theorem gI2_some {f : Int → Int → Option D} {x y d : D} (h : gI2 f x y = some d) : ∃ i j, x = .int i ∧ y = .int j ∧ f i j = some d := by
  unfold gI2 at h
  split at h
  · exact ⟨_, _, rfl, rfl, h⟩
  · cases h
theorem snd_rI {K : PySem.W.Frag} {C : Int → Int → Prop} [∀ i j, Decidable (C i j)] {g : Int → Int → V} {g' : Int → Int → D} (hg : ∀ i j, (g' i j).toV = some (g i j)) : Snd2 K true (rI C g) (gI2 fun i j => if C i j then some (g' i j) else none) := fun G H x y d1 d2 d e h1 h2 q Q k => by
  obtain ⟨i, j, rfl, rfl, qq⟩ := gI2_some q
  split at qq
  · cases qq
    rename_i hc
    exact ⟨i, j, h1.int_inv, h2.int_inv, hc, k_sc k (hg i j)⟩
  · cases qq
theorem snd_rI0 {K : PySem.W.Frag} {g : Int → Int → V} {g' : Int → Int → D} (hg : ∀ i j, (g' i j).toV = some (g i j)) : Snd2 K true (rI0 g) (gI2 fun i j => some (g' i j)) := fun G H x y d1 d2 d e h1 h2 q Q k => by
  obtain ⟨i, j, rfl, rfl, qq⟩ := gI2_some q
  cases qq
  exact ⟨i, j, h1.int_inv, h2.int_inv, k_sc k (hg i j)⟩
instance {i j : Int} : Decidable (CDiv i j) := by unfold CDiv; infer_instance
instance {i j : Int} : Decidable (CPow i j) := by unfold CPow; infer_instance
instance {i j : Int} : Decidable (CMul i j) := by unfold CMul; infer_instance
def gSub := gI2 fun i j => some (.int (i - j))
def divW (j : Int) : Bool := decide (0 < j) && decide (j.natAbs.log2 < 9000)
def gFdiv := gI2 fun i j => if CDiv i j ∨ divW j = true then some (.int (i / j)) else none
def gMod := gI2 fun i j => if 0 < j then some (.int (i % j)) else none
def gPow := gI2 fun i j => if CPow i j then some (.int (i ^ j.toNat)) else none
def gShr := gI2 fun i j => if 0 ≤ j then some (.int (i / 2 ^ j.toNat)) else none
def gShl := gI2 fun i j => if CPow i j then some (.int (i * 2 ^ j.toNat)) else none
def gLt := gI2 fun i j => some (.bl (decide (i < j)))
def gLe := gI2 fun i j => some (.bl (decide (i ≤ j)))
def gGt := gI2 fun i j => some (.bl (decide (j < i)))
def gGe := gI2 fun i j => some (.bl (decide (j ≤ i)))
section
variable {K : PySem.W.Frag}
theorem snd_sub : Snd2 K true (rI0 fun i j => .int (i - j)) gSub := snd_rI0 fun _ _ => rfl
def rFdiv : R2 := fun x y H Q => rI CDiv (fun i j => .int (i / j)) x y H Q ∨ rI CDivW (fun i j => .int (i / j)) x y H Q
theorem snd_fdiv : Snd2 K true rFdiv gFdiv := fun G H x y d1 d2 d e h1 h2 q Q k => by
  obtain ⟨i, j, rfl, rfl, qq⟩ := gI2_some q
  split at qq
  · cases qq
    rename_i hc
    rcases hc with hc | hc
    · exact .inl ⟨i, j, h1.int_inv, h2.int_inv, hc, k_sc k rfl⟩
    · unfold divW at hc
      rw [Bool.and_eq_true] at hc
      exact .inr ⟨i, j, h1.int_inv, h2.int_inv, ⟨of_decide_eq_true hc.1, of_decide_eq_true hc.2⟩, k_sc k rfl⟩
  · cases qq
theorem snd_mod : Snd2 K true (rI (fun _ j => 0 < j) fun i j => .int (i % j)) gMod := snd_rI (C := fun _ j => 0 < j) fun _ _ => rfl
theorem snd_pow : Snd2 K true (rI CPow fun i j => .int (i ^ j.toNat)) gPow := snd_rI fun _ _ => rfl
theorem snd_lt : Snd2 K true (rI0 fun i j => .bl (decide (i < j))) gLt := snd_rI0 fun _ _ => rfl
theorem snd_le : Snd2 K true (rI0 fun i j => .bl (decide (i ≤ j))) gLe := snd_rI0 fun _ _ => rfl
theorem snd_gt : Snd2 K true (rI0 fun i j => .bl (decide (j < i))) gGt := snd_rI0 fun _ _ => rfl
theorem snd_ge : Snd2 K true (rI0 fun i j => .bl (decide (j ≤ i))) gGe := snd_rI0 fun _ _ => rfl
end
theorem gI2_sc {f : Int → Int → Option D} (hf : ∀ i j d, f i j = some d → d.sc = true) {a b : M D} : ScF (e2 (gI2 f) a b) := fun env d env' q => by
  obtain ⟨d1, env1, q1, q⟩ := bnd_ok q
  obtain ⟨d2, env2, q2, q⟩ := bnd_ok q
  obtain ⟨qg, rfl⟩ := lift_ok q
  obtain ⟨i, j, _, _, q⟩ := gI2_some qg
  exact hf i j d q
theorem e2_sc {g : D → D → Option D} (hg : ∀ x y d, g x y = some d → d.sc = true) {a b : M D} : ScF (e2 g a b) := fun env d env' q => by
  obtain ⟨d1, env1, q1, q⟩ := bnd_ok q
  obtain ⟨d2, env2, q2, q⟩ := bnd_ok q
  obtain ⟨qg, rfl⟩ := lift_ok q
  exact hg _ _ _ qg
theorem e1_sc {g : D → Option D} (hg : ∀ x d, g x = some d → d.sc = true) {a : M D} : ScF (e1 g a) := fun env d env' q => by
  obtain ⟨d1, env1, q1, q⟩ := bnd_ok q
  obtain ⟨qg, rfl⟩ := lift_ok q
  exact hg _ _ qg
theorem eN_sc {g : List D → Option D} (hg : ∀ x d, g x = some d → d.sc = true) {a : M (List D)} : ScF (eN g a) := fun env d env' q => by
  obtain ⟨d1, env1, q1, q⟩ := bnd_ok q
  obtain ⟨qg, rfl⟩ := lift_ok q
  exact hg _ _ qg
def gAdd : D → D → Option D
  | .int i, .int j => some (.int (i + j))
  | .str a, .str b => if a.length + b.length ≤ LIM then some (.str (a ++ b)) else none
  | .lst a, .lst b => if a.length + b.length ≤ LIM then some (.lst (a ++ b)) else none
  | _, _ => none
def rAdd3 : R2 := fun x y H Q => rI0 (fun i j => .int (i + j)) x y H Q ∨ (∃ i j, x = .str i ∧ y = .str j ∧ i.length + j.length ≤ sizeLine ∧ Q (.str (i ++ j)) H) ∨ rCat x y H Q
theorem op_add3 {X : Cx} : OpR X (binaryOp .Add) rAdd3 := op_add.or (op_add_str.or op_cat)
theorem snd_add {K : PySem.W.Frag} : Snd2 K true rAdd3 gAdd := fun G H x y d1 d2 d e h1 h2 q Q k => by
  unfold gAdd at q
  split at q
  · cases q; exact .inl ⟨_, _, h1.int_inv, h2.int_inv, k_sc k rfl⟩
  · split at q
    · cases q
      rename_i hl
      exact .inr (.inl ⟨_, _, h1.str_inv, h2.str_inv, lim_sz hl, k_sc k rfl⟩)
    · cases q
  · split at q
    · cases q
      rename_i hl
      obtain ⟨a, xs, rfl, s1, r1⟩ := h1.lst_inv
      obtain ⟨b, ys, rfl, s2, r2⟩ := h2.lst_inv
      refine .inr (.inr ⟨a, b, xs, ys, rfl, rfl, e _ _ s1, e _ _ s2, by rw [r1.length, r2.length]; exact lim_sz hl, fun p hp => k _ _ (Ex.new hp) (new_rp e hp (r1.append r2)) (new_nn hp (r1.append r2))⟩)
    · cases q
  · cases q
theorem RpL.rep {K : PySem.W.Frag} {x : Bool} {G : Hp} {vs : List V} {ds : List D} (h : RpL K x G vs ds) : ∀ k : Nat, RpL K x G (List.replicate k vs).flatten (List.replicate k ds).flatten
  | 0 => .nil
  | k + 1 => by
    rw [List.replicate_succ, List.replicate_succ, List.flatten_cons, List.flatten_cons]
    exact h.append (RpL.rep h k)
def repS (z : Str) (n : Nat) : Str := ⟨(List.replicate n z.cps.toList).flatten.toArray⟩
theorem foldl_cps (a : Array Nat) : ∀ (n : Nat) (b : Array Nat), ((List.replicate n a).foldl (· ++ ·) b) = b ++ (List.replicate n a.toList).flatten.toArray
  | 0, b => by simp
  | n + 1, b => by
    rw [List.replicate_succ, List.foldl_cons, foldl_cps a n, List.replicate_succ, List.flatten_cons]
    apply Array.ext'
    simp
def rSRep : R2 := fun x y H Q => ∃ (z : Str) (k : Int), x = .str z ∧ y = .int k ∧ -(2 ^ 63) ≤ k ∧ k < 2 ^ 31 ∧ z.length * k.toNat ≤ LIM ∧ Q (.str (repS z k.toNat)) H
theorem op_srep {X : Cx} : OpR X (binaryOp .Mult) rSRep := by
  intro pp s σ H x y v u Q I rx ry h
  obtain ⟨z, k, rfl, rfl, h1, h2, h3, q⟩ := h
  obtain ⟨t, rfl⟩ := rx
  obtain ⟨t', rfl⟩ := ry
  have hL : (LIM : Nat) = 100000 := rfl
  refine PySem.P.mul_str ?_ (fun hn _ => ?_) (fun hn _ => ?_) ?_
  · rw [decide_eq_false (by omega), decide_eq_false (by omega)]; rfl
  · have hk : (k.toNat : Int) = k := Int.toNat_of_nonneg (by omega)
    have : (z.length : Int) ≤ (2 ^ 63 - 1) / k := by
      apply Int.le_ediv_of_mul_le (by omega)
      rw [← hk]
      have : ((z.length * k.toNat : Nat) : Int) ≤ 100000 := by omega
      rw [Int.natCast_mul] at this
      omega
    omega
  · unfold PySem.Builtin.Str.tooLong
    exact decide_eq_false (by have : (100000 : Nat) ≤ sizeLine := by decide
                              omega)
  · split
    · rename_i hn
      have e : k.toNat = 0 := by omega
      rw [e] at q
      exact ⟨by decide, .str (repS z 0), H, I.tok _, ⟨_, rfl⟩, q⟩
    · rename_i hn
      split
      · rename_i hc
        rw [Bool.or_eq_true] at hc
        have e : repS z k.toNat = z := by
          rcases hc with hc | hc
          · have : k = 1 := by simpa using hc
            subst this
            unfold repS
            show (⟨([z.cps.toList] : List (List Nat)).flatten.toArray⟩ : Str) = z
            simp
          · have h0 : z.cps.toList = [] := by
              have : z.length = 0 := by simpa using hc
              apply List.eq_nil_of_length_eq_zero
              rw [Array.length_toList]; exact this
            unfold repS
            rw [h0]
            have : ∀ n : Nat, (List.replicate n ([] : List Nat)).flatten = [] := fun n => by simp
            rw [this]
            obtain ⟨⟨l⟩⟩ := z
            simp at h0
            rw [h0]
        rw [e] at q
        exact ⟨.str z, H, I, ⟨_, rfl⟩, q⟩
      · have e : (⟨(List.replicate k.toNat z.cps).foldl (· ++ ·) #[]⟩ : Str) = repS z k.toNat := by
          unfold repS
          rw [foldl_cps]
          simp
        rw [e]
        refine ⟨?_, .str (repS z k.toNat), H, I.tok _, ⟨_, rfl⟩, q⟩
        show (repS z k.toNat).cps.size ≤ sizeLine
        unfold repS
        rw [List.size_toArray, List.length_flatten, List.map_replicate, List.sum_replicate_nat, Array.length_toList]
        have hz : z.cps.size = z.length := rfl
        have : (100000 : Nat) ≤ sizeLine := by decide
        rw [hz, Nat.mul_comm]
        omega
def mulOk (i j : Int) : Bool := decide (CMul i j) || decide (i.natAbs.log2 + j.natAbs.log2 < 1000000)
def gMul : D → D → Option D
  | .int i, .int j => if mulOk i j then some (.int (i * j)) else none
  | .lst a, .int k => if a.length * k.toNat ≤ LIM ∧ -(2 ^ 63) ≤ k ∧ k < 2 ^ 63 then some (.lst (List.replicate k.toNat a).flatten) else none
  | .str z, .int k => if z.length * k.toNat ≤ LIM ∧ -(2 ^ 63) ≤ k ∧ k < 2 ^ 31 then some (.str (repS z k.toNat)) else none
  | _, _ => none
def rMul2 : R2 := fun x y H Q => rSRep x y H Q ∨ (rI CMul (fun i j => .int (i * j)) x y H Q ∨ rI CMulW (fun i j => .int (i * j)) x y H Q) ∨ rRep x y H Q
theorem op_mul2 {X : Cx} : OpR X (binaryOp .Mult) rMul2 := op_srep.or ((op_mul.or op_mulW).or op_rep)
theorem snd_mul {K : PySem.W.Frag} : Snd2 K true rMul2 gMul := fun G H x y d1 d2 d e h1 h2 q Q k => by
  unfold gMul at q
  split at q
  · split at q
    · cases q
      rename_i hc
      rcases Bool.or_eq_true_iff.mp hc with hc | hc
      · exact .inr (.inl (.inl ⟨_, _, h1.int_inv, h2.int_inv, of_decide_eq_true hc, k_sc k rfl⟩))
      · exact .inr (.inl (.inr ⟨_, _, h1.int_inv, h2.int_inv, (by unfold CMulW; exact of_decide_eq_true hc), k_sc k rfl⟩))
    · cases q
  · split at q
    · cases q
      rename_i hc
      obtain ⟨hc, hk1, hk2⟩ := hc
      obtain ⟨a, xs, rfl, s1, r1⟩ := h1.lst_inv
      refine .inr (.inr ⟨a, _, xs, rfl, h2.int_inv, e _ _ s1, hk1, hk2, by rw [r1.length]; exact lim_sz hc, fun p hp => k _ _ (Ex.new hp) (new_rp e hp (r1.rep _)) (new_nn hp (r1.rep _))⟩)
    · cases q
  · split at q
    · cases q
      rename_i hc
      obtain ⟨hc, hk1, hk2⟩ := hc
      exact .inl ⟨_, _, h1.str_inv, h2.int_inv, hk1, hk2, hc, k_sc k rfl⟩
    · cases q
  · cases q
def gNeg : D → Option D
  | .int i => some (.int (-i))
  | _ => none
theorem snd_neg {K : PySem.W.Frag} : Snd1 K true (rU fun i => .int (-i)) gNeg := fun G H x d1 d e h1 q Q k => by
  unfold gNeg at q
  split at q
  · cases q; exact ⟨_, h1.int_inv, k_sc k rfl⟩
  · cases q
mutual
def D.toP : D → Option PyData
  | .non => some .none
  | .bl b => some (.bool b)
  | .int i => some (.int i)
  | .str x => some (.str x)
  | .lst xs => (toPs xs).map .list
  | .tup xs => (toPs xs).map .tuple
  | _ => none
def toPs : List D → Option (List PyData)
  | [] => some []
  | x :: xs => match D.toP x, toPs xs with
    | some a, some b => some (a :: b)
    | _, _ => none
end
mutual
theorem Rp.dp {K : PySem.W.Frag} {G H : Hp} (e : Ex G H) : ∀ {v : V} {d : D} {p : PyData}, Rp K true G v d → d.toP = some p → Dp K H v p
  | _, .non, _, h, q => by cases q; rw [h.non_inv]; exact .non
  | _, .bl b, _, h, q => by cases q; rw [h.bl_inv]; exact .bl b
  | _, .int i, _, h, q => by cases q; rw [h.int_inv]; exact .int i
  | _, .str x, _, h, q => by cases q; rw [h.str_inv]; exact .str x
  | _, .lst ds, p, h, q => by
    cases h with
    | sc z => cases z
    | lst s r =>
      rw [D.toP] at q
      cases z : toPs ds with
      | none => rw [z] at q; cases q
      | some ps =>
        rw [z] at q
        cases q
        exact .lst (.inl (.inl (e _ _ s))) (RpL.dp e r z)
  | _, .tup ds, p, h, q => by
    cases h with
    | sc z => cases z
    | tup s r =>
      rw [D.toP] at q
      cases z : toPs ds with
      | none => rw [z] at q; cases q
      | some ps =>
        rw [z] at q
        cases q
        exact .tup (.inl (.inl (e _ _ s))) (RpL.dp e r z)
  | _, .dic _, _, _, q => by rw [D.toP] at q <;> first | cases q | (intros; rintro ⟨⟩)
  | _, .dit _, _, _, q => by rw [D.toP] at q <;> first | cases q | (intros; rintro ⟨⟩)
  | _, .exc _, _, _, q => by rw [D.toP] at q <;> first | cases q | (intros; rintro ⟨⟩)
theorem RpL.dp {K : PySem.W.Frag} {G H : Hp} (e : Ex G H) : ∀ {vs : List V} {ds : List D} {ps : List PyData}, RpL K true G vs ds → toPs ds = some ps → DpAll K H vs ps
  | _, _, _, .nil, q => by rw [toPs] at q; cases q; exact .nil
  | _, d :: ds, ps, .cons h r, q => by
    rw [toPs] at q
    cases z1 : D.toP d with
    | none => rw [z1] at q; cases q
    | some a =>
      cases z2 : toPs ds with
      | none => rw [z1, z2] at q; cases q
      | some b =>
        rw [z1, z2] at q
        cases q
        exact .cons (Rp.dp e h z1) (RpL.dp e r z2)
end
def deq (a b : D) : Option Bool := match a, b with
  | .int i, .int j => some (decide (i = j))
  | .str x, .str y => some (decide (x = y))
  | a, b => match a.toP, b.toP with
    | some p, some q => if SeqAt.shaped p && SeqAt.shaped q then some (PyData.eqv p q) else none
    | _, _ => none
def gEq (a b : D) : Option D := (deq a b).map .bl
def gNe (a b : D) : Option D := (deq a b).map fun k => .bl (!k)
def rEq2 (K : PySem.W.Frag) : R2 := fun x y H Q => rEq x y H Q ∨ rEqD K x y H Q
def rNe2 (K : PySem.W.Frag) : R2 := fun x y H Q => rNe x y H Q ∨ rNeD K x y H Q
theorem op_eq2 {X : Cx} (hu : X.A.units + 64 < cLine) : OpR X (compareOp .Eq) (rEq2 X.K) := op_eq.or (op_eqD hu)
theorem op_ne2 {X : Cx} (hu : X.A.units + 64 < cLine) : OpR X (compareOp .NotEq) (rNe2 X.K) := op_ne.or (op_neD hu)
theorem deq_cases {K : PySem.W.Frag} {G H : Hp} {x y : V} {a b : D} {k : Bool} (e : Ex G H) (h1 : Rp K true G x a) (h2 : Rp K true G y b) (q : deq a b = some k) :
    (scal x y = true ∧ decide (x = y) = k) ∨ ∃ p p', Dp K H x p ∧ Dp K H y p' ∧ SeqAt.shaped p = true ∧ SeqAt.shaped p' = true ∧ PyData.eqv p p' = k := by
  unfold deq at q
  split at q
  · cases q
    rw [h1.int_inv, h2.int_inv]
    refine .inl ⟨rfl, ?_⟩
    rw [Bool.eq_iff_iff]; simp
  · cases q
    rw [h1.str_inv, h2.str_inv]
    refine .inl ⟨rfl, ?_⟩
    rw [Bool.eq_iff_iff]; simp
  · split at q
    · split at q
      · cases q
        rename_i p p' z1 z2 hs
        rw [Bool.and_eq_true] at hs
        exact .inr ⟨p, p', h1.dp e z1, h2.dp e z2, hs.1, hs.2, rfl⟩
      · cases q
    · cases q
theorem snd_eq {K : PySem.W.Frag} : Snd2 K true (rEq2 K) gEq := fun G H x y d1 d2 d e h1 h2 q Q k => by
  unfold gEq at q
  cases z : deq d1 d2 with
  | none => rw [z] at q; cases q
  | some b =>
    rw [z] at q
    cases q
    rcases deq_cases e h1 h2 z with ⟨s, t⟩ | ⟨p, p', a1, a2, a3, a4, t⟩
    · exact .inl ⟨s, by rw [t]; exact k_sc k rfl⟩
    · exact .inr ⟨p, p', a1, a2, a3, a4, by rw [t]; exact k_sc k rfl⟩
theorem snd_ne {K : PySem.W.Frag} : Snd2 K true (rNe2 K) gNe := fun G H x y d1 d2 d e h1 h2 q Q k => by
  unfold gNe at q
  cases z : deq d1 d2 with
  | none => rw [z] at q; cases q
  | some b =>
    rw [z] at q
    cases q
    rcases deq_cases e h1 h2 z with ⟨s, t⟩ | ⟨p, p', a1, a2, a3, a4, t⟩
    · exact .inl ⟨s, by rw [t]; exact k_sc k rfl⟩
    · exact .inr ⟨p, p', a1, a2, a3, a4, by rw [t]; exact k_sc k rfl⟩
def isNon : D → Option Bool
  | .non => some true
  | _ => some false
theorem isNon_v {K : PySem.W.Frag} {G : Hp} {x : V} {d : D} {k : Bool} (h : Rp K true G x d) (q : isNon d = some k) : decide (x = .non) = k := by
  cases h with
  | sc z => cases d <;> cases q <;> cases z <;> rfl
  | lst _ _ => cases q; rfl
  | tup _ _ => cases q; rfl
  | dic _ _ _ => cases q; rfl
  | dit _ _ _ => cases q; rfl
  | exc _ => cases q; rfl
def gIsN (a b : D) : Option D := match b with
  | .non => (isNon a).map .bl
  | _ => none
theorem snd_isN {K : PySem.W.Frag} : Snd2 K true (fun x y H Q => y = .non ∧ Q (.bl (decide (x = .non))) H) gIsN := fun G H x y d1 d2 d e h1 h2 q Q k => by
  unfold gIsN at q
  split at q
  · cases z : isNon d1 with
    | none => rw [z] at q; cases q
    | some b => rw [z] at q; cases q; exact ⟨h2.non_inv, by rw [isNon_v h1 z]; exact k_sc k rfl⟩
  · cases q
theorem atI_rp {K : PySem.W.Frag} {x : Bool} {G : Hp} {xs : List V} {ds : List D} {i : Int} {d : D} (h : RpL K x G xs ds) (q : atI ds i = some d) : ∃ v, atI xs i = some v ∧ Rp K x G v d := by
  unfold atI at q ⊢
  rw [h.length]
  cases z : ixN ds.length i with
  | none => rw [z] at q; cases q
  | some j =>
    rw [z] at q
    exact h.get q
def gIx : D → D → Option D
  | .lst ds, .int i => atI ds i
  | .tup ds, .int i => atI ds i
  | .str z, .int i => if z.length ≤ LIM then (atI z.cps.toList i).map fun c => .str ⟨#[c]⟩ else none
  | _, _ => none
theorem snd_ix {K : PySem.W.Frag} : Snd2 K false (rIx K) gIx := fun G H x y d1 d2 d e h1 h2 q Q k => by
  unfold gIx at q
  split at q
  · obtain ⟨a, xs, rfl, s1, r1⟩ := h1.lst_inv
    obtain ⟨v, hv, hr⟩ := atI_rp r1 q
    exact .inl ⟨a, xs, _, v, rfl, h2.int_inv, .inl (.inl (e _ _ s1)), hv, k v H (Ex.refl H) (hr.mono (Ex.grow e (Ex.refl H))) fun z => by cases z⟩
  · obtain ⟨a, xs, rfl, s1, r1⟩ := h1.tup_inv
    obtain ⟨v, hv, hr⟩ := atI_rp r1 q
    exact .inr (.inl ⟨a, xs, _, v, rfl, h2.int_inv, .inl (.inl (e _ _ s1)), hv, k v H (Ex.refl H) (hr.mono (Ex.grow e (Ex.refl H))) fun z => by cases z⟩)
  · split at q
    · rename_i z i hl
      cases zz : atI z.cps.toList i with
      | none => rw [zz] at q; cases q
      | some c =>
        rw [zz] at q
        cases q
        exact .inr (.inr ⟨_, _, c, h1.str_inv, h2.int_inv, lim_sz hl, zz, k_sc k rfl⟩)
    · cases q
  · cases q
theorem se_ix {X : Cx} {cf : Cf} {W : WX} {c : Cls} {n1 n2 : Bool} {a b : Expr} {ta tb : TE} {fa fb : M D} {pos : Pos} (hK : cf.K = X.K) (ha : SE X cf W c n1 a ta fa) (hb : SE X cf W c n2 b tb fb) (hs : PlainIx b) : SE X cf W c false (.Subscript a b pos) (tOp (rIx cf.K) ta tb) (e2 gIx fa fb) := by
  refine ⟨?_, sd_op2 snd_ix ha.s hb.s⟩
  rw [hK]
  exact pe_ix ix_seq ha.p hb.p hs
def asI : D → Option (Option Int)
  | .int i => some (some i)
  | _ => none
def oNone : M (Option Int) := ret none
def oSome (f : M D) : M (Option Int) := bnd f fun d => lift (asI d)
def cutA {α : Type} (xs : List α) (lo hi : Option Int) : List α := (xs.drop (HT.sIx xs.length 0 lo)).take (HT.sIx xs.length xs.length hi - HT.sIx xs.length 0 lo)
def gSl : D → Option Int → Option Int → Option D
  | .lst ds, l, h => some (.lst (cutA ds l h))
  | .str z, l, h => if z.length ≤ LIM then some (.str (cutS z l h)) else none
  | _, _, _ => none
def eSl (f : M D) (lo hi : M (Option Int)) : M D := bnd f fun x => bnd lo fun l => bnd hi fun h => lift (gSl x l h)
def SdO (cf : Cf) (W : WX) (to : TO) (f : M (Option Int)) : Prop :=
  ∀ (R : Rs) (Hs : Hp) (env : PEnv) (σ : L2.St) (H : Hp) (F : Nat → List Addr) (wf : List Addr), Rel cf R Hs env σ H F wf → ∀ Q : Option Int → Hp → Prop,
    match f env with
    | .ok o env' => (∀ Hs' H', Stp cf wf env Hs H env' Hs' H' → Rel cf R Hs' env' σ H' F wf → Q o H') → to σ H Q
    | .ex x env' => (∀ Hs' H', Stp cf wf env Hs H env' Hs' H' → Rel cf R Hs' env' σ H' F wf → W (cf.cv x) none σ H') → to σ H Q
    | .stuck => True
structure SO (X : Cx) (cf : Cf) (W : WX) (e : Option Expr) (t : TO) (f : M (Option Int)) : Prop where
  p : PO X e t
  s : SdO cf W t f
section
variable {X : Cx} {cf : Cf} {W : WX} {c : Cls} {n n1 n2 : Bool}
theorem so_none : SO X cf W none tNoPart oNone := ⟨po_none, fun R Hs env σ H F wf r Q k => k Hs H Stp.refl r⟩
theorem so_some {e : Expr} {te : TE} {f : M D} (h : SE X cf W c n e te f) : SO X cf W (some e) (tPart te) (oSome f) := by
  obtain ⟨p, s⟩ := h
  refine ⟨po_some p, fun R Hs env σ H F wf r Q => ?_⟩
  cases q : oSome f env with
  | ok o env' =>
    intro k
    obtain ⟨d, env1, q1, q⟩ := bnd_ok q
    obtain ⟨qg, rfl⟩ := lift_ok q
    unfold asI at qg
    split at qg
    · cases qg
      exact s.ok r q1 fun v Hs1 H1 s1 r1 p1 _ => ⟨_, p1.int_inv, k Hs1 H1 s1 r1⟩
    · cases qg
  | ex x env' =>
    intro k
    rcases bnd_ex q with q | ⟨d1, env1, q1, q⟩
    · exact s.exn r q k
    · exact (lift_ex q).elim
  | stuck => trivial
theorem SdO.ok {to : TO} {f : M (Option Int)} {R : Rs} {Hs : Hp} {env env' : PEnv} {σ : L2.St} {H : Hp} {F : Nat → List Addr} {wf : List Addr} (s : SdO cf W to f) (r : Rel cf R Hs env σ H F wf) {d : Option Int} (q : f env = .ok d env') {Q : Option Int → Hp → Prop} (k : ∀ Hs' H', Stp cf wf env Hs H env' Hs' H' → Rel cf R Hs' env' σ H' F wf → Q d H') : to σ H Q := by
  have h := s R Hs env σ H F wf r Q
  rw [q] at h
  exact h k
theorem SdO.exn {to : TO} {f : M (Option Int)} {R : Rs} {Hs : Hp} {env env' : PEnv} {σ : L2.St} {H : Hp} {F : Nat → List Addr} {wf : List Addr} (s : SdO cf W to f) (r : Rel cf R Hs env σ H F wf) {x : Str} (q : f env = .ex x env') {Q : Option Int → Hp → Prop} (k : ∀ Hs' H', Stp cf wf env Hs H env' Hs' H' → Rel cf R Hs' env' σ H' F wf → W (cf.cv x) none σ H') : to σ H Q := by
  have h := s R Hs env σ H F wf r Q
  rw [q] at h
  exact h k
theorem cutV_rp {K : PySem.W.Frag} {x : Bool} {G : Hp} {xs : List V} {ds : List D} (h : RpL K x G xs ds) (lo hi : Option Int) : RpL K x G (cutV xs lo hi) (cutA ds lo hi) := by
  unfold cutV cutA
  rw [h.length]
  exact (h.drop _).take _
def rSl2 (K : PySem.W.Frag) : V → Option Int → Option Int → Hp → VK → Prop := fun x lo hi H Q => rSlL K x lo hi H Q ∨ rSlS x lo hi H Q
theorem snd_sl {K : PySem.W.Frag} {G H : Hp} {x : V} {d1 d : D} {l h : Option Int} (e : Ex G H) (h1 : Rp K true G x d1) (q : gSl d1 l h = some d) (Q : VK) (k : ∀ v H', Ex H H' → Rp K true (grow G H H') v d → Nn K true H H' v d → Q v H') : rSl2 K x l h H Q := by
  unfold gSl at q
  split at q
  · cases q
    obtain ⟨a, xs, rfl, s1, r1⟩ := h1.lst_inv
    exact .inl ⟨a, xs, rfl, .inl (.inl (e _ _ s1)), fun p hp => k _ _ (Ex.new hp) (new_rp e hp (cutV_rp r1 _ _)) (new_nn hp (cutV_rp r1 _ _))⟩
  · split at q
    · cases q
      rename_i hl
      exact .inr ⟨_, h1.str_inv, lim_sz hl, k_sc k rfl⟩
    · cases q
  · cases q
theorem se_sl {e : Expr} {lo hi : Option Expr} {te : TE} {tl th : TO} {f : M D} {fl fh : M (Option Int)} {p2 pos : Pos} (hK : cf.K = X.K) (h : SE X cf W c n1 e te f) (hl : SO X cf W lo tl fl) (hh : SO X cf W hi th fh) : SE X cf W c true (.Subscript e (.Slice lo hi none p2) pos) (tSl (rSl2 cf.K) te tl th) (eSl f fl fh) := by
  rw [hK]
  obtain ⟨p, s⟩ := h
  obtain ⟨p2, s2⟩ := hl
  obtain ⟨p3, s3⟩ := hh
  refine ⟨pe_slice (r := rSl2 X.K) (sl_list.or sl_str) p p2 p3, Sd.mk (fun R Hs env σ H F wf r d env' q Q k => ?_) (fun R Hs env σ H F wf r x env' q Q k => ?_)⟩
  · obtain ⟨d1, env1, q1, q⟩ := bnd_ok q
    obtain ⟨d2, env2, q2, q⟩ := bnd_ok q
    obtain ⟨d3, env3, q3, q⟩ := bnd_ok q
    obtain ⟨qg, rfl⟩ := lift_ok q
    exact s.ok r q1 fun v Hs1 H1 s1 r1 p1 _ => s2.ok r1 q2 fun Hs2 H2 s2 r2 => s3.ok r2 q3 fun Hs3 H3 s3 r3 => by
      show rSl2 X.K v d2 d3 H3 Q
      rw [← hK]
      exact snd_sl (rg_sub (H0 := R.H0) (Hst := H) (c := c) (wf := wf) r3.exs) ((p1.mono (rg_step s2)).mono (rg_step s3)) qg Q fun v4 H4 x p nn => fin_op ((s1.trans s2).trans s3) r3 x p nn k
  · rcases bnd_ex q with q | ⟨d1, env1, q1, q⟩
    · exact s.exn r q k
    · rcases bnd_ex q with q | ⟨d2, env2, q2, q⟩
      · exact s.ok r q1 fun v Hs1 H1 s1 r1 p1 _ => s2.exn r1 q fun Hs2 H2 s2 r2 => k Hs2 H2 (s1.trans s2) r2
      · rcases bnd_ex q with q | ⟨d3, env3, q3, q⟩
        · exact s.ok r q1 fun v Hs1 H1 s1 r1 p1 _ => s2.ok r1 q2 fun Hs2 H2 s2 r2 => s3.exn r2 q fun Hs3 H3 s3 r3 => k Hs3 H3 ((s1.trans s2).trans s3) r3
        · exact (lift_ex q).elim
def gRev : D → Option D
  | .lst ds => some (.lst ds.reverse)
  | _ => none
theorem snd_rev {K : PySem.W.Frag} : Snd1 K true (fun x H1 Q => ∃ a xs, x = .ref a ∧ SqL K H1 a xs ∧ ∀ p, H1 p = none → Q (.ref p) (upd H1 p (.lst xs.reverse))) gRev := fun G H x d1 d e h1 q Q k => by
  unfold gRev at q
  split at q
  · cases q
    obtain ⟨a, xs, rfl, s1, r1⟩ := h1.lst_inv
    exact ⟨a, xs, rfl, .inl (.inl (e _ _ s1)), fun p hp => k _ _ (Ex.new hp) (new_rp e hp r1.rev) (new_nn hp r1.rev)⟩
  · cases q
theorem se_rev {e : Expr} {te : TE} {f : M D} {k : Nat} {p1 p2 p3 pos : Pos} (hK : cf.K = X.K) (h : SE X cf W c n1 e te f) : SE X cf W c true (.Subscript e (.Slice none none (some (.UnaryOp .USub (.Constant (.int 1) k p1) p2)) p3) pos) (tRevL cf.K te) (e1 gRev f) := by
  rw [hK]
  obtain ⟨p, s⟩ := h
  exact ⟨pe_revL p, sd_op1 (r := fun x H1 Q => ∃ a xs, x = .ref a ∧ SqL X.K H1 a xs ∧ ∀ p, H1 p = none → Q (.ref p) (upd H1 p (.lst xs.reverse))) (by rw [← hK]; exact snd_rev) s⟩
end
def gLen : List D → Option D
  | [.lst ds] => some (.int ds.length)
  | [.tup ds] => some (.int ds.length)
  | [.str z] => if z.length ≤ LIM then some (.int z.length) else none
  | _ => none
theorem RpL.one {K : PySem.W.Frag} {x : Bool} {G : Hp} {xs : List V} {d : D} (h : RpL K x G xs [d]) : ∃ v, xs = [v] ∧ Rp K x G v d := by
  cases h with
  | cons h r => cases r; exact ⟨_, rfl, h⟩
theorem RpL.two {K : PySem.W.Frag} {x : Bool} {G : Hp} {xs : List V} {d e : D} (h : RpL K x G xs [d, e]) : ∃ v w, xs = [v, w] ∧ Rp K x G v d ∧ Rp K x G w e := by
  cases h with
  | cons h r =>
    obtain ⟨w, rfl, h2⟩ := r.one
    exact ⟨_, w, rfl, h, h2⟩
theorem snd_len {K : PySem.W.Frag} : SndN K true (fun xs H Q => ∃ x n, xs = [x] ∧ LenV K x H n ∧ Q (.int n) H) gLen := fun G H xs ds d e h q Q k => by
  unfold gLen at q
  split at q
  · cases q
    obtain ⟨v, rfl, hq⟩ := h.one
    obtain ⟨a, xs, rfl, s1, r1⟩ := hq.lst_inv
    exact ⟨_, _, rfl, .inl ⟨xs, .inl (.inl (e _ _ s1)), rfl⟩, by rw [r1.length]; exact k_sc k rfl⟩
  · cases q
    obtain ⟨v, rfl, hq⟩ := h.one
    obtain ⟨a, xs, rfl, s1, r1⟩ := hq.tup_inv
    exact ⟨_, _, rfl, .inr ⟨xs, .inl (.inl (e _ _ s1)), rfl⟩, by rw [r1.length]; exact k_sc k rfl⟩
  · split at q
    · cases q
      rename_i hl
      obtain ⟨v, rfl, hq⟩ := h.one
      rw [hq.str_inv]
      exact ⟨_, _, rfl, ⟨lim_sz hl, rfl⟩, k_sc k rfl⟩
    · cases q
  · cases q
def gMax2 : List D → Option D
  | [.int i, .int j] => some (.int (if j > i then j else i))
  | _ => none
def gMin2 : List D → Option D
  | [.int i, .int j] => some (.int (if j < i then j else i))
  | _ => none
theorem snd_max2 {K : PySem.W.Frag} : SndN K true (fun xs H Q => ∃ i j, xs = [.int i, .int j] ∧ Q (.int (if j > i then j else i)) H) gMax2 := fun G H xs ds d e h q Q k => by
  unfold gMax2 at q
  split at q
  · cases q
    obtain ⟨v, w, rfl, h1, h2⟩ := h.two
    exact ⟨_, _, by rw [h1.int_inv, h2.int_inv], k_sc k rfl⟩
  · cases q
theorem snd_min2 {K : PySem.W.Frag} : SndN K true (fun xs H Q => ∃ i j, xs = [.int i, .int j] ∧ Q (.int (if j < i then j else i)) H) gMin2 := fun G H xs ds d e h q Q k => by
  unfold gMin2 at q
  split at q
  · cases q
    obtain ⟨v, w, rfl, h1, h2⟩ := h.two
    exact ⟨_, _, by rw [h1.int_inv, h2.int_inv], k_sc k rfl⟩
  · cases q
def gInt1 : List D → Option D
  | [.int i] => some (.int i)
  | [.bl b] => some (.int (if b then 1 else 0))
  | _ => none
theorem snd_int1 {K : PySem.W.Frag} : SndN K true (fun xs H Q => (∃ i, xs = [.int i] ∧ Q (.int i) H) ∨ ∃ k, xs = [.bl k] ∧ Q (.int (if k then 1 else 0)) H) gInt1 := fun G H xs ds d e h q Q k => by
  unfold gInt1 at q
  split at q
  · cases q
    obtain ⟨v, rfl, hq⟩ := h.one
    exact .inl ⟨_, by rw [hq.int_inv], k_sc k rfl⟩
  · cases q
    obtain ⟨v, rfl, hq⟩ := h.one
    exact .inr ⟨_, by rw [hq.bl_inv], k_sc k rfl⟩
  · cases q
def chV (z : Str) : List V := z.cps.toList.map fun c => V.str ⟨#[c]⟩
def chD (z : Str) : List D := z.cps.toList.map fun c => D.str ⟨#[c]⟩
theorem chs_rp {K : PySem.W.Frag} {x : Bool} {G : Hp} : ∀ l : List Nat, RpL K x G (l.map fun c => V.str ⟨#[c]⟩) (l.map fun c => D.str ⟨#[c]⟩)
  | [] => .nil
  | c :: l => .cons (.str _) (chs_rp l)
def rListS : List V → Hp → VK → Prop := fun xs H Q => ∃ z : Str, xs = [.str z] ∧ z.length ≤ LIM ∧ ∀ l, H l = none → Q (.ref l) (upd H l (.lst (chV z)))
theorem call_listS {X : Cx} (hc : X.calm = true) : CallR X (.type "list") rListS := by
  intro pp s σ H xs us Q I r h
  obtain ⟨z, rfl, hz, q⟩ := h
  obtain ⟨u, rfl, ru⟩ := r.one
  obtain ⟨t, rfl⟩ := ru
  have hsz : z.cps.size ≤ sizeLine := lim_sz hz
  refine PySem.call_list_str (I.ok.hd hc) z t (fun h' tk acc c' hk e hi => ?_) hsz
  have hl : acc.toList.length = z.cps.size := by rw [Array.length_toList]; exact hi.1
  have hv : Vals (chV z) acc.toList := by
    have e1 : chV z = (List.range acc.toList.length).map fun j => V.str ⟨#[z.cps.toList.getD j 0]⟩ := by
      unfold chV
      apply List.ext_getElem
      · rw [List.length_map, List.length_map, List.length_range, hl, Array.length_toList]
      · intro j h1 h2
        rw [List.length_map] at h1
        rw [List.getElem_map, List.getElem_map, List.getElem_range, List.getD_eq_getElem?_getD, List.getElem?_eq_getElem h1]
        rfl
    rw [e1]
    refine vals_of_get acc.toList _ fun j u hj => ?_
    obtain ⟨c, tu, h1, h2⟩ := hi.2 j u (by rw [← hj, Array.getElem?_toList])
    subst h2
    refine ⟨tu, ?_⟩
    have : z.cps.toList.getD j 0 = c := by
      rw [List.getD_eq_getElem?_getD, Array.getElem?_toList, h1]; rfl
    rw [this]
  refine ⟨.ref s.heap.objs.size, upd H s.heap.objs.size (.lst (chV z)), I.laid hk (Nat.le_refl _) (show ObjOk X.prog X.w _ _ _ (.lst (chV z)) from ⟨?_, acc.toList, c', hv, ?_⟩), rfl, q _ (I.hok.fresh (Nat.le_refl _))⟩
  · rw [hv.length, hl]; exact hsz
  · rw [Array.toArray_toList]; exact e
def gList1 : List D → Option D
  | [.lst ds] => some (.lst ds)
  | [.tup ds] => some (.lst ds)
  | [.str z] => if z.length ≤ LIM then some (.lst (chD z)) else none
  | _ => none
def rList1 (K : PySem.W.Frag) : List V → Hp → VK → Prop := fun xs H Q => (∃ p ys, xs = [.ref p] ∧ (SqL K H p ys ∨ SqT K H p ys) ∧ ∀ l, H l = none → Q (.ref l) (upd H l (.lst ys))) ∨ rListS xs H Q
theorem snd_list1 {K : PySem.W.Frag} : SndN K true (rList1 K) gList1 := fun G H xs ds d e h q Q k => by
  unfold gList1 at q
  split at q
  · cases q
    obtain ⟨v, rfl, hq⟩ := h.one
    obtain ⟨a, xs, rfl, s1, r1⟩ := hq.lst_inv
    exact .inl ⟨_, xs, rfl, .inl (.inl (.inl (e _ _ s1))), fun p hp => k _ _ (Ex.new hp) (new_rp e hp r1) (new_nn hp r1)⟩
  · cases q
    obtain ⟨v, rfl, hq⟩ := h.one
    obtain ⟨a, xs, rfl, s1, r1⟩ := hq.tup_inv
    exact .inl ⟨_, xs, rfl, .inr (.inl (.inl (e _ _ s1))), fun p hp => k _ _ (Ex.new hp) (new_rp e hp r1) (new_nn hp r1)⟩
  · split at q
    · cases q
      rename_i z hz
      obtain ⟨v, rfl, hq⟩ := h.one
      rw [hq.str_inv]
      exact .inr ⟨z, rfl, hz, fun p hp => k _ _ (Ex.new hp) (new_rp e hp (chs_rp _)) (new_nn (G := G) hp (chs_rp _))⟩
    · cases q
  · cases q
def asInts : List D → Option (List Int)
  | [] => some []
  | .int i :: r => (asInts r).map (i :: ·)
  | _ => none
theorem asInts_rp {K : PySem.W.Frag} {x : Bool} {G : Hp} : ∀ {xs : List V} {ds : List D} {ns : List Int}, RpL K x G xs ds → asInts ds = some ns → xs = ns.map V.int
  | _, _, _, .nil, q => by rw [asInts] at q; cases q; rfl
  | _, d :: ds, ns, .cons h r, q => by
    cases d with
    | int i =>
      rw [asInts] at q
      cases z : asInts ds with
      | none => rw [z] at q; cases q
      | some ms => rw [z] at q; cases q; rw [h.int_inv, asInts_rp r z]; rfl
    | _ => rw [asInts] at q <;> first | cases q | (intros; rintro ⟨⟩)
def gSum : List D → Option D
  | [.lst ds] => (asInts ds).map fun ns => .int ns.sum
  | _ => none
theorem snd_sum {K : PySem.W.Frag} : SndN K true (rSum K) gSum := fun G H xs ds d e h q Q k => by
  unfold gSum at q
  split at q
  · rename_i ds
    obtain ⟨v, rfl, hq⟩ := h.one
    obtain ⟨a, xs, rfl, s1, r1⟩ := hq.lst_inv
    cases z : asInts ds with
    | none => rw [z] at q; cases q
    | some ns =>
      rw [z] at q
      cases q
      exact ⟨a, ns, rfl, by rw [← asInts_rp r1 z]; exact .inl (.inl (e _ _ s1)), k_sc k rfl⟩
  · cases q
def inD (x : D) (ds : List D) : Bool := match x.toV with
  | some v => inV v (ds.filterMap D.toV)
  | none => false
theorem toVs_rp {K : PySem.W.Frag} {x : Bool} {G : Hp} : ∀ {xs : List V} {ds : List D}, RpL K x G xs ds → ds.all D.sc = true → xs = ds.filterMap D.toV
  | _, _, .nil, _ => rfl
  | _, d :: ds, .cons h r, hs => by
    rw [List.all_cons, Bool.and_eq_true] at hs
    rw [List.filterMap_cons, h.toV hs.1, ← toVs_rp r hs.2]
theorem flatV_of {d : D} {v : V} (h : d.toV = some v) : flatV v = true := by
  cases d <;> cases h <;> rfl
theorem flatV_all {K : PySem.W.Frag} {x : Bool} {G : Hp} : ∀ {xs : List V} {ds : List D}, RpL K x G xs ds → ds.all D.sc = true → xs.all flatV = true
  | _, _, .nil, _ => rfl
  | _, d :: ds, .cons h r, hs => by
    rw [List.all_cons, Bool.and_eq_true] at hs
    rw [List.all_cons, flatV_of (h.toV hs.1), flatV_all r hs.2]; rfl
def inOk (a b : D) : Option Bool := match b with
  | .lst ds => if a.sc && ds.all D.sc then some (inD a ds) else none
  | .tup ds => if a.sc && ds.all D.sc then some (inD a ds) else none
  | .str z => match a with
    | .str ⟨⟨[c]⟩⟩ => some (decide (c ∈ z.cps.toList))
    | _ => none
  | _ => none
def gNotIn (a b : D) : Option D := (inOk a b).map fun k => .bl (!k)
def rNotIn2 (K : PySem.W.Frag) : R2 := fun x y H Q => rIn K true x y H Q ∨ ∃ (c : Nat) (z : Str), x = .str ⟨#[c]⟩ ∧ y = .str z ∧ Q (.bl (!decide (c ∈ z.cps.toList))) H
theorem op_notIn2 {X : Cx} : OpR X (compareOp .NotIn) (rNotIn2 X.K) := op_notIn_seq.or op_notIn_sign
theorem inOk_cases {K : PySem.W.Frag} {G H : Hp} {x y : V} {a b : D} {k : Bool} (e : Ex G H) (h1 : Rp K true G x a) (h2 : Rp K true G y b) (q : inOk a b = some k) :
    (∃ p xs, y = .ref p ∧ (SqL K H p xs ∨ SqT K H p xs) ∧ flatV x = true ∧ xs.all flatV = true ∧ inV x xs = k) ∨ ∃ (c : Nat) (z : Str), x = .str ⟨#[c]⟩ ∧ y = .str z ∧ decide (c ∈ z.cps.toList) = k := by
  unfold inOk at q
  split at q
  · split at q
    · rename_i hs
      rw [Bool.and_eq_true] at hs
      cases q
      obtain ⟨p, xs, rfl, s1, r1⟩ := h2.lst_inv
      refine .inl ⟨p, xs, rfl, .inl (.inl (.inl (e _ _ s1))), flatV_of (h1.toV hs.1), flatV_all r1 hs.2, ?_⟩
      unfold inD
      rw [h1.toV hs.1, toVs_rp r1 hs.2]
    · cases q
  · split at q
    · rename_i hs
      rw [Bool.and_eq_true] at hs
      cases q
      obtain ⟨p, xs, rfl, s1, r1⟩ := h2.tup_inv
      refine .inl ⟨p, xs, rfl, .inr (.inl (.inl (e _ _ s1))), flatV_of (h1.toV hs.1), flatV_all r1 hs.2, ?_⟩
      unfold inD
      rw [h1.toV hs.1, toVs_rp r1 hs.2]
    · cases q
  · split at q
    · cases q
      exact .inr ⟨_, _, h1.str_inv, h2.str_inv, rfl⟩
    · cases q
  · cases q
theorem snd_notIn {K : PySem.W.Frag} : Snd2 K true (rNotIn2 K) gNotIn := fun G H x y d1 d2 d e h1 h2 q Q k => by
  unfold gNotIn at q
  cases z : inOk d1 d2 with
  | none => rw [z] at q; cases q
  | some b =>
    rw [z] at q
    cases q
    rcases inOk_cases e h1 h2 z with ⟨p, xs, a1, a2, a3, a4, t⟩ | ⟨c, z, a1, a2, t⟩
    · exact .inl ⟨p, xs, a1, a2, a3, a4, by rw [if_pos rfl, t]; exact k_sc k rfl⟩
    · exact .inr ⟨c, z, a1, a2, by rw [t]; exact k_sc k rfl⟩
end MV
namespace MV
open PySem L2
section
variable {cf : Cf} {R : Rs} {Hs : Hp} {env : PEnv} {σ : L2.St} {H : Hp} {F : Nat → List Addr} {wf : List Addr}
theorem get_set {α : Type} {l : List α} {i j : Nat} {x y : α} (h : (l.set i x)[j]? = some y) : (i = j ∧ x = y ∧ i < l.length) ∨ (i ≠ j ∧ l[j]? = some y) := by
  by_cases e : i = j
  · subst e
    by_cases hl : i < l.length
    · rw [List.getElem?_set_self hl] at h; exact .inl ⟨rfl, Option.some.inj h, hl⟩
    · rw [List.getElem?_eq_none (by rw [List.length_set]; omega)] at h; cases h
  · rw [List.getElem?_set_ne e] at h; exact .inr ⟨e, h⟩
theorem Rel.put (r : Rel cf R Hs env σ H F wf) {i : Nat} {v : V} {d : D} (hw : cf.kd i ≠ .W) (hs : ∀ F', SlotR cf.K R Hs H F' (cf.kd i) v d) : Rel cf R Hs (env.set i (some d)) (σ.set i (some v)) H F wf where
  len := by rw [List.length_set, List.length_set]; exact r.len
  exs := r.exs
  ex0 := r.ex0
  dom0 := r.dom0
  slot := fun j d' h => by
    rcases get_set h with ⟨rfl, e, hl⟩ | ⟨ne, h⟩
    · cases e
      exact ⟨v, by rw [List.getElem?_set_self (by rw [← r.len]; exact hl)], hs _⟩
    · obtain ⟨w, h1, h2⟩ := r.slot j d' h
      exact ⟨w, by rw [List.getElem?_set_ne ne]; exact h1, h2⟩
  nod := r.nod
  dis := r.dis
  fdom := r.fdom
  uns := r.uns
  new := r.new
  volw := r.volw
  volb := r.volb
  wdom := r.wdom
  ior := fun p h => by
    obtain ⟨h1, h2, h3, d', h4⟩ := r.ior p h
    have ne : i ≠ 0 := fun e => by subst e; exact hw h3
    exact ⟨by rw [List.getElem?_set_ne ne]; exact h1, h2, h3, d', by rw [List.getElem?_set_ne ne]; exact h4⟩
theorem Rel.mut (r : Rel cf R Hs env σ H F wf) {i : Nat} {p : Addr} {o' : HO} {v : V} {d0 d' : D} (hp : p ∈ F i) (he : env[i]? = some (some d0)) (hv : σ[i]? = some (some v)) (hs : SlotR cf.K R Hs (upd H p o') (F i) (cf.kd i) v d') : Rel cf R Hs (env.set i (some d')) σ (upd H p o') F wf where
  len := by rw [List.length_set]; exact r.len
  exs := fun a o h => by
    rw [upd_ne (fun e => by subst e; rw [r.uns i _ hp] at h; cases h)]; exact r.exs a o h
  ex0 := r.ex0
  dom0 := fun a h => by
    by_cases e : a = p
    · subst e; rw [upd_same]; exact fun z => by cases z
    · rw [upd_ne e]; exact r.dom0 a h
  slot := fun j d h => by
    rcases get_set h with ⟨rfl, e, hl⟩ | ⟨ne, h⟩
    · cases e
      exact ⟨v, hv, hs⟩
    · obtain ⟨w, h1, h2⟩ := r.slot j d h
      refine ⟨w, h1, ?_⟩
      have np : ∀ a ∈ F j, ∀ o, H a = some o → upd H p o' a = some o := fun a m o h => by
        rw [upd_ne (fun e => by subst e; exact r.dis i j ne _ hp m)]; exact h
      cases q : cf.kd j with
      | S => rw [q] at h2; exact h2
      | N => rw [q] at h2; exact h2
      | Q => rw [q] at h2; exact h2
      | P => rw [q] at h2; exact Own.keep (Ex.refl _) h2 np
      | M => rw [q] at h2; exact ⟨Own.keep (Ex.refl _) h2.1 np, h2.2⟩
      | W =>
        rw [q] at h2
        obtain ⟨p2, xs, ds, e1, e2, e3, e4, e5⟩ := h2
        exact ⟨p2, xs, ds, e1, e2, e3, np p2 (by rw [e3]; exact List.mem_singleton.mpr rfl) _ e4, e5⟩
  nod := r.nod
  dis := r.dis
  fdom := fun j a h => by
    by_cases e : a = p
    · subst e; rw [upd_same]; exact fun z => by cases z
    · rw [upd_ne e]; exact r.fdom j a h
  uns := r.uns
  new := r.new
  volw := r.volw
  volb := r.volb
  wdom := fun a h => by
    obtain ⟨h1, h2⟩ := r.wdom a h
    refine ⟨?_, h2⟩
    by_cases e : a = p
    · subst e; rw [upd_same]; exact fun z => by cases z
    · rw [upd_ne e]; exact h1
  ior := fun p h => by
    obtain ⟨h1, h2, h3, d'', h4⟩ := r.ior p h
    refine ⟨h1, h2, h3, ?_⟩
    by_cases e : i = 0
    · subst e
      have hl : 0 < env.length := (List.getElem?_eq_some_iff.mp he).1
      exact ⟨d', by rw [List.getElem?_set_self hl]⟩
    · exact ⟨d'', by rw [List.getElem?_set_ne e]; exact h4⟩
theorem Rel.own {env1 : PEnv} {Hs1 H1 : Hp} (r : Rel cf R Hs env σ H F wf) (s1 : Stp cf wf env Hs H env1 Hs1 H1) (r1 : Rel cf R Hs1 env1 σ H1 F wf) {i : Nat} {v : V} {d : D} {Fn wf' : List Addr} (hio : R.io ≠ none → i ≠ 0)
    (hn : Fn.Nodup) (hnew : ∀ a ∈ Fn, H a = none ∧ H1 a ≠ none) (hwf : ∀ a, a ∈ wf' ↔ a ∈ wf ∨ (cf.kd i = .W ∧ a ∈ Fn))
    (hs : SlotR cf.K R (rm Hs1 Fn) H1 Fn (cf.kd i) v d) : Rel cf R (rm Hs1 Fn) (env1.set i (some d)) (σ.set i (some v)) H1 (fun j => if j = i then Fn else F j) wf' ∧ Ex Hs (rm Hs1 Fn) := by
  have old : ∀ a, H a ≠ none → a ∉ Fn := fun a h m => h (hnew a m).1
  have exs : Ex Hs (rm Hs1 Fn) := fun a o h => by
    have : a ∉ Fn := old a (by rw [r.exs a o h]; exact fun z => by cases z)
    unfold rm
    rw [if_neg this]
    exact s1.ex a o h
  have sub : Ex (rm Hs1 Fn) Hs1 := rm_sub _ _
  refine ⟨?_, exs⟩
  constructor
  case len => rw [List.length_set, List.length_set]; exact r1.len
  case exs => exact sub.trans r1.exs
  case ex0 => exact fun a o h n => exs a o (r.ex0 a o h n)
  case dom0 => exact r1.dom0
  case slot =>
    intro j d' h
    rcases get_set h with ⟨rfl, e, hl⟩ | ⟨ne, h⟩
    · cases e
      exact ⟨v, by rw [List.getElem?_set_self (by rw [← r1.len]; exact hl)], by rw [if_pos rfl]; exact hs⟩
    · obtain ⟨w, h1, h2⟩ := r1.slot j d' h
      refine ⟨w, by rw [List.getElem?_set_ne ne]; exact h1, ?_⟩
      rw [if_neg (Ne.symm ne)]
      by_cases hw : cf.kd j = .W
      · rw [hw] at h2 ⊢; exact h2
      · have h' : env[j]? = some (some d') := by rw [← s1.kp j hw]; exact h
        obtain ⟨w0, g1, g2⟩ := r.slot j d' h'
        have ew : w0 = w := by rw [g1] at h1; cases h1; rfl
        subst ew
        cases q : cf.kd j with
        | S => rw [q] at g2; exact Rp.mono exs g2
        | N => rw [q] at g2; exact Rp.mono (rs_mono exs) g2
        | Q => rw [q] at g2; exact Rp.mono exs g2
        | P => rw [q] at g2; exact Own.keep (th_mono (rs_mono exs)) g2 fun a m o ha => s1.keep a o (r.volb j hw a m) ha
        | M => rw [q] at g2; exact ⟨Own.keep (rs_mono exs) g2.1 fun a m o ha => s1.keep a o (r.volb j hw a m) ha, g2.2⟩
        | W => exact absurd q hw
  case nod =>
    intro j
    by_cases e : j = i
    · rw [if_pos e]; exact hn
    · rw [if_neg e]; exact r.nod j
  case dis =>
    intro j k ne a m
    by_cases e : j = i
    · subst e
      rw [if_pos rfl] at m
      rw [if_neg (Ne.symm ne)]
      exact fun m2 => r.fdom k a m2 (hnew a m).1
    · rw [if_neg e] at m
      by_cases e2 : k = i
      · rw [if_pos e2]; exact old a (r.fdom j a m)
      · rw [if_neg e2]; exact r.dis j k ne a m
  case fdom =>
    intro j a m
    by_cases e : j = i
    · rw [if_pos e] at m; exact (hnew a m).2
    · rw [if_neg e] at m; exact r1.fdom j a m
  case uns =>
    intro j a m
    by_cases e : j = i
    · rw [if_pos e] at m; unfold rm; rw [if_pos m]
    · rw [if_neg e] at m
      unfold rm
      split
      · rfl
      · exact r1.uns j a m
  case new =>
    intro j a m
    by_cases e : j = i
    · rw [if_pos e] at m
      refine .inr ?_
      cases q : R.H0 a with
      | none => rfl
      | some o => exact absurd (hnew a m).1 (r.dom0 a (by rw [q]; exact fun z => by cases z))
    · rw [if_neg e] at m; exact r.new j a m
  case volw =>
    intro j hk a m
    rw [hwf]
    by_cases e : j = i
    · subst e; rw [if_pos rfl] at m; exact .inr ⟨hk, m⟩
    · rw [if_neg e] at m; exact .inl (r.volw j hk a m)
  case volb =>
    intro j hk a m z
    rcases (hwf a).mp z with z | ⟨z1, z2⟩
    · by_cases e : j = i
      · rw [if_pos e] at m; exact (r.wdom a z).1 (hnew a m).1
      · rw [if_neg e] at m; exact r.volb j hk a m z
    · by_cases e : j = i
      · subst e; exact hk z1
      · rw [if_neg e] at m; exact r.fdom j a m (hnew a z2).1
  case wdom =>
    intro a m
    rcases (hwf a).mp m with z | ⟨z1, z2⟩
    · obtain ⟨g1, g2⟩ := r1.wdom a z
      refine ⟨g1, ?_⟩
      unfold rm
      split
      · rfl
      · exact g2
    · refine ⟨(hnew a z2).2, ?_⟩
      unfold rm
      rw [if_pos z2]
  case ior =>
    intro p h
    obtain ⟨h1, h2, h3, d', h4⟩ := r1.ior p h
    have ne : i ≠ 0 := hio (by rw [h]; exact fun z => by cases z)
    exact ⟨by rw [List.getElem?_set_ne ne]; exact h1, by rw [if_neg (Ne.symm ne)]; exact h2, h3, d', by rw [List.getElem?_set_ne ne]; exact h4⟩
end
def SG (X : Cx) (cf : Cf) (W : WX) (c : Cls) (n : Bool) (i : Nat) (st : Stmt) (f : M D) : Prop := ∃ te, PS X st (tAsg te (gName i)) ∧ Sd cf W c n te f
def sSet (i : Nat) (f : M D) : M Fl := bnd f fun d => fun e => .ok .nx (e.set i (some d))
def mok : D → Bool
  | .lst ds => ds.all fun x => x.sc || match x with | .tup es => es.all D.sc | _ => false
  | d => d.sc
def sSetM (i : Nat) (f : M D) : M Fl := bnd f fun d => bnd (lift (if mok d then some d else none)) fun d => fun e => .ok .nx (e.set i (some d))
def wok : D → Bool
  | .lst ds => ds.all D.sc
  | _ => false
def sSetW (i : Nat) (f : M D) : M Fl := bnd f fun d => bnd (lift (if wok d then some d else none)) fun d => fun e => .ok .nx (e.set i (some d))
def eS (f : M D) : M D := bnd f fun d => lift (if d.sc then some d else none)
section
variable {X : Cx} {cf : Cf} {W : WX} {c : Cls} {n : Bool} {i : Nat}
theorem SE.scal {e : Expr} {te : TE} {f : M D} (h : SE X cf W c n e te f) : SE X cf W .V true e te (eS f) := by
  obtain ⟨p, s⟩ := h
  refine ⟨p, Sd.mk (fun R Hs env σ H F wf r d env' q Q k => ?_) (fun R Hs env σ H F wf r x env' q Q k => ?_)⟩
  · obtain ⟨d1, env1, q1, q⟩ := bnd_ok q
    obtain ⟨qg, rfl⟩ := lift_ok q
    split at qg
    · cases qg
      rename_i hs
      exact s.ok r q1 fun v Hs1 H1 s1 r1 p1 _ => k v Hs1 H1 s1 r1 (p1.sc_any hs _ _) fun _ _ => p1.sc_any hs _ _
    · cases qg
  · rcases bnd_ex q with q | ⟨d1, env1, q1, q⟩
    · exact s.exn r q k
    · exact (lift_ex q).elim
theorem Post.mono {R : Rs} {Hs Hs' : Hp} {D : Ends} (e : Ex Hs Hs') : ∀ {g : Res Fl}, Post cf W R Hs D g → Post cf W R Hs' D g
  | .ok .nx _, h => fun Hs2 σ' H' F' wf' e2 r => h Hs2 σ' H' F' wf' (e.trans e2) r
  | .ok (.rt _) _, h => fun v Hs2 σ' H' F' wf' e2 r => h v Hs2 σ' H' F' wf' (e.trans e2) r
  | .ok .bk _, h => fun Hs2 σ' H' F' wf' e2 r => h Hs2 σ' H' F' wf' (e.trans e2) r
  | .ok .ct _, h => fun Hs2 σ' H' F' wf' e2 r => h Hs2 σ' H' F' wf' (e.trans e2) r
  | .ex _ _, h => fun Hs2 σ' H' F' wf' e2 r => h Hs2 σ' H' F' wf' (e.trans e2) r
  | .stuck, h => h
theorem Sd.bind {te : TE} {f : M D} {g : D → M Fl} {R : Rs} {Hs : Hp} {env : PEnv} {σ : L2.St} {H : Hp} {F : Nat → List Addr} {wf : List Addr} {D : Ends} {Q : VK} (s : Sd cf W c n te f) (r : Rel cf R Hs env σ H F wf) (hp : Post cf W R Hs D (bnd f g env))
    (k : ∀ d env1 v Hs1 H1, Stp cf wf env Hs H env1 Hs1 H1 → Rel cf R Hs1 env1 σ H1 F wf → Rp cf.K true (rg c R.H0 Hs1 H H1 wf) v d → Nr cf.K n H Hs1 v d → Post cf W R Hs D (g d env1) → Q v H1) : te σ H Q := by
  unfold bnd at hp
  cases q : f env with
  | ok d env1 => rw [q] at hp; exact s.ok r q fun v Hs1 H1 s1 r1 p1 nr => k d env1 v Hs1 H1 s1 r1 p1 nr hp
  | ex x env1 => rw [q] at hp; exact s.exn r q fun Hs1 H1 s1 r1 => hp Hs1 σ H1 F wf s1.ex r1
  | stuck => rw [q] at hp; exact hp.elim
theorem SdT.bind {tt : TT} {f : M Bool} {g : Bool → M Fl} {R : Rs} {Hs : Hp} {env : PEnv} {σ : L2.St} {H : Hp} {F : Nat → List Addr} {wf : List Addr} {D : Ends} {Q : Bool → Hp → Prop} (s : SdT cf W tt f) (r : Rel cf R Hs env σ H F wf) (hp : Post cf W R Hs D (bnd f g env))
    (k : ∀ b env1 Hs1 H1, Stp cf wf env Hs H env1 Hs1 H1 → Rel cf R Hs1 env1 σ H1 F wf → Post cf W R Hs D (g b env1) → Q b H1) : tt σ H Q := by
  unfold bnd at hp
  cases q : f env with
  | ok d env1 => rw [q] at hp; exact s.ok r q fun Hs1 H1 s1 r1 => k d env1 Hs1 H1 s1 r1 hp
  | ex x env1 => rw [q] at hp; exact s.exn r q fun Hs1 H1 s1 r1 => hp Hs1 σ H1 F wf s1.ex r1
  | stuck => rw [q] at hp; exact hp.elim
theorem post_lift {α : Type} {o : Option α} {g : α → M Fl} {R : Rs} {Hs : Hp} {env : PEnv} {D : Ends} (hp : Post cf W R Hs D (bnd (lift o) g env)) : ∃ a, o = some a ∧ Post cf W R Hs D (g a env) := by
  cases o with
  | none => exact hp.elim
  | some a => exact ⟨a, rfl, hp⟩
theorem ss_setS {st : Stmt} {f : M D} (h : SG X cf W .S n i st f) (hk : cf.kd i = .S) : SS X cf W st (sSet i f) := by
  obtain ⟨te, p, s⟩ := h
  refine ⟨_, p, fun R Hs env σ H F wf r D hp => s.bind r hp fun d env1 v Hs1 H1 s1 r1 p1 _ hp => ?_⟩
  exact hp Hs1 _ H1 F wf s1.ex (r1.put (by rw [hk]; exact fun z => by cases z) fun F' => by rw [hk]; exact p1)
theorem ss_setN {st : Stmt} {f : M D} (h : SG X cf W .N n i st f) (hk : cf.kd i = .N) : SS X cf W st (sSet i f) := by
  obtain ⟨te, p, s⟩ := h
  refine ⟨_, p, fun R Hs env σ H F wf r D hp => s.bind r hp fun d env1 v Hs1 H1 s1 r1 p1 _ hp => ?_⟩
  exact hp Hs1 _ H1 F wf s1.ex (r1.put (by rw [hk]; exact fun z => by cases z) fun F' => by rw [hk]; exact p1)
theorem items_off {K : PySem.W.Frag} {A G : Hp} {p : Addr} {xs0 : List V} (hp : A p = some (.lst xs0)) (e : ∀ a o, a ≠ p → A a = some o → G a = some o) : ∀ {xs : List V} {ds : List D}, RpL K true A xs ds → (ds.all fun x => x.sc || match x with | .tup es => es.all D.sc | _ => false) = true → RpL K true G xs ds
  | _, _, .nil, _ => .nil
  | _, d :: ds, .cons h r, hs => by
    rw [List.all_cons, Bool.and_eq_true] at hs
    refine .cons ?_ (items_off hp e r hs.2)
    by_cases z : d.sc = true
    · exact h.sc_any z _ _
    · have h1 := hs.1
      rw [Bool.or_eq_true] at h1
      rcases h1 with h1 | h1
      · exact absurd h1 z
      · cases d with
        | tup es =>
          obtain ⟨a, ys, rfl, s1, r1⟩ := h.tup_inv
          have na : a ≠ p := fun z => by
            subst z
            have s1 : A a = some (.tup ys) := s1
            rw [hp] at s1; cases s1
          exact .tup (show G a = _ from e a _ na s1) (r1.sc_any h1 _ _)
        | _ => cases h1
theorem ss_setM {st : Stmt} {f : M D} (h : SG X cf W .V n i st f) (hk : cf.kd i = .M) : SS X cf W st (sSetM i f) := by
  obtain ⟨te, p, s⟩ := h
  refine ⟨_, p, fun R Hs env σ H F wf r D hp => s.bind r hp fun d env1 v Hs1 H1 s1 r1 p1 _ hp => ?_⟩
  obtain ⟨d', e, hp⟩ := post_lift hp
  split at e
  · cases e
    rename_i hm
    have p1 : Rp cf.K true (rs Hs1 H) v d := p1
    cases d with
    | lst ds =>
      obtain ⟨a, xs, rfl, h1, h2⟩ := p1.lst_inv
      have h1 : rs Hs1 H a = some (.lst xs) := h1
      have hna : H a = none := by
        cases z : H a with
        | none => rfl
        | some o => rw [rs_some z] at h1; cases h1
      rw [rs_none hna] at h1
      have hio : R.io ≠ none → i ≠ 0 := fun hh e => by
        cases z : R.io with
        | none => exact hh z
        | some q =>
          obtain ⟨_, _, h3, _⟩ := r.ior q z
          rw [← e, hk] at h3; cases h3
      obtain ⟨r2, e2⟩ := r.own s1 r1 (i := i) (v := .ref a) (d := .lst ds) (Fn := [a]) (wf' := wf) hio (by simp)
        (fun b m => by
          rw [List.mem_singleton.mp m]
          exact ⟨hna, by rw [r1.exs _ _ h1]; exact fun z => by cases z⟩)
        (fun b => ⟨.inl, fun z => z.elim id fun z => by rw [hk] at z; cases z.1⟩)
        (by
          rw [hk]
          refine ⟨Own.lst (r1.exs _ _ h1) (ownL_of ?_), fun z => (by cases z), Nat.le_refl _⟩
          refine items_off (A := rs Hs1 H) (p := a) (xs0 := xs) (by rw [rs_none hna]; exact h1) (fun b o nb hb => ?_) h2 hm
          have hb0 : H b = none := by
            cases z : H b with
            | none => rfl
            | some o => rw [rs_some z] at hb; cases hb
          rw [rs_none hb0] at hb
          have h00 : R.H0 b = none := by
            cases z : R.H0 b with
            | none => rfl
            | some o => exact absurd hb0 (r.dom0 b (by rw [z]; exact fun z => by cases z))
          rw [rs_none h00]
          unfold rm
          rw [if_neg (fun m => nb (List.mem_singleton.mp m))]
          exact hb)
      exact hp _ _ H1 _ wf e2 r2
    | _ =>
      obtain ⟨r2, e2⟩ := r.own s1 r1 (i := i) (v := v) (d := _) (Fn := []) (wf' := wf) (fun hh e => by
            cases z : R.io with
            | none => exact hh z
            | some q =>
              obtain ⟨_, _, h3, _⟩ := r.ior q z
              rw [← e, hk] at h3; cases h3) (by simp) (fun b m => by cases m) (fun b => ⟨.inl, fun z => z.elim id fun z => by cases z.2⟩) (by
            rw [hk]
            exact ⟨.leaf (p1.sc_any hm _ _), fun _ => hm, Nat.zero_le _⟩)
      exact hp _ _ H1 _ wf e2 r2
  · cases e
theorem ss_setW {st : Stmt} {f : M D} (h : SG X cf W .V n i st f) (hk : cf.kd i = .W) (h0 : i ≠ 0) : SS X cf W st (sSetW i f) := by
  obtain ⟨te, p, s⟩ := h
  refine ⟨_, p, fun R Hs env σ H F wf r D hp => s.bind r hp fun d env1 v Hs1 H1 s1 r1 p1 _ hp => ?_⟩
  obtain ⟨d', e, hp⟩ := post_lift hp
  split at e
  · cases e
    rename_i hm
    have p1 : Rp cf.K true (rs Hs1 H) v d := p1
    cases d with
    | lst ds =>
      obtain ⟨a, xs, rfl, h1, h2⟩ := p1.lst_inv
      have h1 : rs Hs1 H a = some (.lst xs) := h1
      have hna : H a = none := by
        cases z : H a with
        | none => rfl
        | some o => rw [rs_some z] at h1; cases h1
      rw [rs_none hna] at h1
      obtain ⟨r2, e2⟩ := r.own s1 r1 (i := i) (v := .ref a) (d := .lst ds) (Fn := [a]) (wf' := a :: wf) (fun _ => h0) (by simp)
        (fun b m => by
          rw [List.mem_singleton.mp m]
          exact ⟨hna, by rw [r1.exs _ _ h1]; exact fun z => by cases z⟩)
        (fun b => by
          rw [List.mem_cons, List.mem_singleton]
          exact ⟨fun z => z.elim (fun z => .inr ⟨hk, z⟩) .inl, fun z => z.elim .inr fun z => .inl z.2⟩)
        (by
          rw [hk]
          exact ⟨a, xs, ds, rfl, rfl, rfl, r1.exs _ _ h1, hm, h2.sc_any hm _ _⟩)
      exact hp _ _ H1 _ _ e2 r2
    | _ => cases hm
  · cases e
theorem sg_of {x : Str} {e : Expr} {te : TE} {f : M D} {pos' pos : Pos} (h : SE X cf W c n e te f) (hN : X.N.Nodup) (hi : X.N[i]? = some x) (hx : Loc X.env.scope x) (hs : swapsWith e (some (.Name x pos')) pos.line X.env = pure false := by rfl) (hf : X.fn x = true ∨ X.env.scope.names.lookup x = some .local := by first | exact .inl rfl | exact .inr rfl | assumption) :
    SG X cf W c n i (.Assign [.Name x pos'] e pos) f := by
  obtain ⟨p, s⟩ := h
  exact ⟨te, ps_set hN hi hx p hs hf, s⟩
theorem SG.le {c' : Cls} {st : Stmt} {f : M D} (h : SG X cf W c n i st f) (l : Cls.Le c c') : SG X cf W c' n i st f := let ⟨t, p, s⟩ := h; ⟨t, p, s.le l⟩
def sSkip : M Fl := ret .nx
def sSeq (a b : M Fl) : M Fl := bnd a fun f => match f with
  | .nx => b
  | o => ret o
def sDrop (f : M D) : M Fl := bnd f fun _ => ret .nx
def sRet (f : M D) : M Fl := bnd f fun d => ret (.rt d)
def sIf (t : M Bool) (a b : M Fl) : M Fl := bnd t fun k => if k then a else b
def sBrk : M Fl := ret .bk
def sCont : M Fl := ret .ct
theorem sss_nil : SSs X cf W [] sSkip := ⟨_, pss_nil, fun R Hs env σ H F wf r D hp => hp Hs σ H F wf (Ex.refl _) r⟩
theorem sds_seq {t u : TS} {a b : M Fl} (ha : SdS cf W t a) (hb : SdS cf W u b) : SdS cf W (tSeq t u) (sSeq a b) := by
  intro R Hs env σ H F wf r D hp
  refine ha R Hs env σ H F wf r { D with nx := u D } ?_
  unfold sSeq bnd at hp
  cases q : a env with
  | ok f env1 =>
    rw [q] at hp
    cases f with
    | nx => exact fun Hs' σ' H' F' wf' e r' => hb R Hs' env1 σ' H' F' wf' r' D (hp.mono e)
    | rt d => exact hp
    | bk => exact hp
    | ct => exact hp
  | ex x env1 => rw [q] at hp; exact hp
  | stuck => rw [q] at hp; exact hp
theorem sss_cons {st : Stmt} {rest : List Stmt} {a b : M Fl} (ha : SS X cf W st a) (hb : SSs X cf W rest b) : SSs X cf W (st :: rest) (sSeq a b) := let ⟨_, p, s⟩ := ha; let ⟨_, p2, s2⟩ := hb; ⟨_, pss_cons p p2, sds_seq s s2⟩
theorem sss_one {st : Stmt} {a : M Fl} (ha : SS X cf W st a) : SSs X cf W [st] a := let ⟨_, p, s⟩ := ha; ⟨_, pss_one p, s⟩
theorem ss_expr {e : Expr} {te : TE} {f : M D} {pos : Pos} (h : SE X cf W c n e te f) (hs : swapsWith e none pos.line X.env = pure false := by rfl) : SS X cf W (.Expr e pos) (sDrop f) := by
  obtain ⟨p, s⟩ := h
  exact ⟨_, ps_expr p hs, fun R Hs env σ H F wf r D hp => s.bind r hp fun d env1 v Hs1 H1 s1 r1 p1 _ hp => hp Hs1 σ H1 F wf s1.ex r1⟩
theorem ss_ret {e : Expr} {te : TE} {f : M D} {pos : Pos} (h : SE X cf W .L n e te f) : SS X cf W (.Return (some e) pos) (sRet f) := by
  obtain ⟨p, s⟩ := h
  exact ⟨_, ps_ret p, fun R Hs env σ H F wf r D hp => s.bind r hp fun d env1 v Hs1 H1 s1 r1 p1 _ hp => hp v Hs1 σ H1 F wf s1.ex r1 p1⟩
def sRetN : M Fl := ret (.rt .non)
theorem ss_if {e : Expr} {a b : List Stmt} {tt : TT} {ft : M Bool} {fa fb : M Fl} {pos : Pos} (ht : ST X cf W e tt ft) (ha : SSs X cf W a fa) (hb : SSs X cf W b fb) : SS X cf W (.If e a b pos) (sIf ft fa fb) := by
  obtain ⟨p, s⟩ := ht
  obtain ⟨ta, pa, sa⟩ := ha
  obtain ⟨tb, pb, sb⟩ := hb
  refine ⟨_, ps_if p pa pb, fun R Hs env σ H F wf r D hp => s.bind r hp fun k env1 Hs1 H1 s1 r1 hp => ?_⟩
  cases k with
  | true => exact sa R Hs1 env1 σ H1 F wf r1 D (Post.mono s1.ex hp)
  | false => exact sb R Hs1 env1 σ H1 F wf r1 D (Post.mono s1.ex hp)
def sAft (go : M Fl) : Fl → M Fl
  | .nx => go
  | .ct => go
  | .bk => ret .nx
  | .rt d => ret (.rt d)
def sWhile (t : M Bool) (b : M Fl) : Nat → M Fl
  | 0 => fail
  | n + 1 => bnd t fun k => if k then bnd b (sAft (sWhile t b n)) else ret .nx
theorem ss_while {e : Expr} {body : List Stmt} {tt : TT} {ft : M Bool} {fb : M Fl} {pos : Pos} (m : Nat) (hp : PassesOwn (model X.prog X.w) X.A X.env X.xe) (ht : ST X cf W e tt ft) (hb : SSs X cf W body fb) : SS X cf W (.While e body [] pos) (sWhile ft fb m) := by
  obtain ⟨p, s⟩ := ht
  obtain ⟨tb, pb, sb⟩ := hb
  refine ⟨_, ps_while hp p pb, fun R Hs env σ H F wf r D hp => ?_⟩
  refine ⟨fun m σ H => ∃ Hs1 env F wf, Ex Hs Hs1 ∧ Rel cf R Hs1 env σ H F wf ∧ Post cf W R Hs1 D (sWhile ft fb m env), ⟨m, Hs, env, F, wf, Ex.refl _, r, hp⟩, ?_⟩
  rintro m σ H ⟨Hs1, env, F, wf, e1, r, hp⟩
  cases m with
  | zero => exact hp.elim
  | succ m =>
    refine s.bind r hp fun k env1 Hs2 H2 s2 r2 hp => ?_
    have hp := Post.mono s2.ex hp
    cases k with
    | false => exact hp Hs2 σ H2 F wf (Ex.refl _) r2
    | true =>
      refine ⟨fun σ' H' => ∃ Hs3 env F wf, Ex Hs Hs3 ∧ Rel cf R Hs3 env σ' H' F wf ∧ Post cf W R Hs3 D (sWhile ft fb m env), fun σ' H' h => ⟨m, Nat.lt_succ_self m, h⟩, ?_⟩
      refine sb R Hs2 env1 σ H2 F wf r2 _ ?_
      have hp : Post cf W R Hs2 D (bnd fb (sAft (sWhile ft fb m)) env1) := hp
      unfold bnd at hp
      cases q : fb env1 with
      | ok f env2 =>
        rw [q] at hp
        cases f with
        | nx => exact fun Hs' σ' H' F' wf' e r' => ⟨Hs', env2, F', wf', (e1.trans s2.ex).trans e, r', Post.mono e hp⟩
        | ct => exact fun Hs' σ' H' F' wf' e r' => ⟨Hs', env2, F', wf', (e1.trans s2.ex).trans e, r', Post.mono e hp⟩
        | bk => exact fun Hs' σ' H' F' wf' e r' => hp Hs' σ' H' F' wf' e r'
        | rt d => exact hp
      | ex x env2 => rw [q] at hp; exact hp
      | stuck => rw [q] at hp; exact hp
end
end MV
namespace MV
open PySem L2
structure ItOk (K : PySem.W.Frag) (J : It) (Hs1 : Hp) (ds : List D) : Prop where
  go : ∀ i H, i < ds.length → Ex Hs1 H → J.go i H
  stop : ∀ H, Ex Hs1 H → J.stop ds.length H
  yld : ∀ i H x H', Ex Hs1 H → i < ds.length → J.yld i H x H' → Ex H H' ∧ ∀ G, Ex Hs1 G → Ex G H → ∃ d, ds[i]? = some d ∧ Rp K true (grow G H H') x d
def SdI (cf : Cf) (W : WX) (wi : TI) (fi : M (List D)) : Prop :=
  ∀ (R : Rs) (Hs : Hp) (env : PEnv) (σ : L2.St) (H : Hp) (F : Nat → List Addr) (wf : List Addr), Rel cf R Hs env σ H F wf → ∀ Rk : It → Hp → Prop,
    match fi env with
    | .ok ds env' => (∀ J Hs' H', Stp cf wf env Hs H env' Hs' H' → Rel cf R Hs' env' σ H' F wf → ItOk cf.K J Hs' ds → Rk J H') → wi σ H Rk
    | .ex x env' => (∀ Hs' H', Stp cf wf env Hs H env' Hs' H' → Rel cf R Hs' env' σ H' F wf → W (cf.cv x) none σ H') → wi σ H Rk
    | .stuck => True
structure SI (X : Cx) (cf : Cf) (W : WX) (tg iter : Expr) (wi : TI) (fi : M (List D)) : Prop where
  p : PI X tg iter wi
  s : SdI cf W wi fi
section
variable {K : PySem.W.Frag}
theorem itl_ok {a : Addr} {xs : List V} {ds : List D} {Hs1 : Hp} (h : Hs1 a = some (.lst xs)) (r : RpL K true Hs1 xs ds) : ItOk K (Itl K a) Hs1 ds where
  go := fun i H hi e => by
    have hi' : i < xs.length := by rw [r.length]; exact hi
    exact ⟨xs, xs[i], .inl (.inl (e _ _ h)), by simp [hi']⟩
  stop := fun H e => ⟨xs, .inl (.inl (e _ _ h)), by rw [r.length]; exact Nat.le_refl _⟩
  yld := fun i H x H' e hi y => by
    obtain ⟨rfl, y⟩ := y
    refine ⟨Ex.refl _, fun G eg e2 => ?_⟩
    obtain ⟨d, hd, hr⟩ := r.getV (y xs (.inl (.inl (e _ _ h))))
    exact ⟨d, hd, hr.mono (eg.trans (Ex.grow e2 (Ex.refl _)))⟩
def rngD (lo : Int) (n : Nat) : List D := (List.range n).map fun k => .int (lo + (k : Nat))
theorem rngD_len (lo : Int) (n : Nat) : (rngD lo n).length = n := by unfold rngD; rw [List.length_map, List.length_range]
theorem itr_ok {lo : Int} {n : Nat} {Hs1 : Hp} : ItOk K (Itr lo n) Hs1 (rngD lo n) where
  go := fun i H hi e => by rw [rngD_len] at hi; exact hi
  stop := fun H e => by rw [rngD_len]; exact Nat.le_refl _
  yld := fun i H x H' e hi y => by
    obtain ⟨rfl, rfl⟩ := y
    rw [rngD_len] at hi
    exact ⟨Ex.refl _, fun G eg e2 => ⟨.int (lo + i), by unfold rngD; simp [hi], .int _⟩⟩
def rngC (lo c : Int) (n : Nat) : List D := (List.range n).map fun k => .int (lo + (k : Nat) * c)
def enumD (ds : List D) : List D := ds.zipIdx.map fun p => .tup [.int (p.2 : Nat), p.1]
theorem enumD_len (ds : List D) : (enumD ds).length = ds.length := by unfold enumD; simp
theorem ite_ok {a : Addr} {xs : List V} {ds : List D} {Hs1 : Hp} (h : Hs1 a = some (.lst xs)) (r : RpL K true Hs1 xs ds) : ItOk K (Ite K a) Hs1 (enumD ds) where
  go := fun i H hi e => by
    rw [enumD_len] at hi
    have hi' : i < xs.length := by rw [r.length]; exact hi
    exact ⟨xs, xs[i], .inl (.inl (e _ _ h)), by simp [hi']⟩
  stop := fun H e => ⟨xs, .inl (.inl (e _ _ h)), by rw [enumD_len, r.length]; exact Nat.le_refl _⟩
  yld := fun i H x H' e hi y => by
    obtain ⟨T, z, rfl, hT, rfl, y⟩ := y
    refine ⟨Ex.new hT, fun G eg e2 => ?_⟩
    obtain ⟨d, hd, hr⟩ := r.getV (y xs (.inl (.inl (e _ _ h))))
    refine ⟨.tup [.int (i : Nat), d], by unfold enumD; simp [hd], newT_rp e2 hT (.cons (.int _) (.cons (hr.mono eg) .nil))⟩
def zipD (as bs : List D) : List D := (as.zip bs).map fun p => .tup [p.1, p.2]
theorem zipD_len (as bs : List D) : (zipD as bs).length = min as.length bs.length := by unfold zipD; simp
theorem itz_ok {a b : Addr} {xs ys : List V} {as bs : List D} {Hs1 : Hp} (h : Hs1 a = some (.lst xs)) (r : RpL K true Hs1 xs as) (h2 : Hs1 b = some (.lst ys)) (r2 : RpL K true Hs1 ys bs) : ItOk K (Itz K a b) Hs1 (zipD as bs) where
  go := fun i H hi e => by
    rw [zipD_len] at hi
    have hi' : i < xs.length := by rw [r.length]; omega
    have hi2 : i < ys.length := by rw [r2.length]; omega
    exact ⟨xs, ys, xs[i], ys[i], .inl (.inl (e _ _ h)), .inl (.inl (e _ _ h2)), by simp [hi'], by simp [hi2]⟩
  stop := fun H e => ⟨xs, ys, .inl (.inl (e _ _ h)), .inl (.inl (e _ _ h2)), by rw [zipD_len, r.length, r2.length]; omega⟩
  yld := fun i H x H' e hi y => by
    obtain ⟨T, z, z2, rfl, hT, rfl, y, y2⟩ := y
    refine ⟨Ex.new hT, fun G eg e2 => ?_⟩
    obtain ⟨d, hd, hr⟩ := r.getV (y xs (.inl (.inl (e _ _ h))))
    obtain ⟨d2, hd2, hr2⟩ := r2.getV (y2 ys (.inl (.inl (e _ _ h2))))
    refine ⟨.tup [d, d2], ?_, newT_rp e2 hT (.cons (hr.mono eg) (.cons (hr2.mono eg) .nil))⟩
    unfold zipD
    have hz : (as.zip bs)[i]? = some (d, d2) := List.getElem?_zip_eq_some.mpr ⟨hd, hd2⟩
    rw [List.getElem?_map, hz]
    rfl
def strD (z : Str) : List D := z.cps.toList.map fun c => .str ⟨#[c]⟩
end
def asL : D → Option (List D)
  | .lst ds => some ds
  | _ => none
def asT : D → Option (List D)
  | .tup ds => some ds
  | _ => none
def asStr : D → Option (List D)
  | .str z => some (strD z)
  | _ => none
def iL (f : M D) : M (List D) := bnd f fun d => lift (asL d)
def iT (f : M D) : M (List D) := bnd f fun d => lift (asT d)
def iS (f : M D) : M (List D) := bnd f fun d => lift (asStr d)
def smallI (i : Int) : Bool := decide (-(2 ^ 62) ≤ i ∧ i < 2 ^ 62)
def gR1 : List D → Option (List D)
  | [.int j] => if smallI j then some (rngD 0 j.toNat) else none
  | _ => none
def gR2 : List D → Option (List D)
  | [.int i, .int j] => if smallI i && smallI j then some (rngD i (j - i).toNat) else none
  | _ => none
def gEn : List D → Option (List D)
  | [.lst ds] => some (enumD ds)
  | _ => none
def gZp : List D → Option (List D)
  | [.lst as, .lst bs] => some (zipD as bs)
  | _ => none
def iN (g : List D → Option (List D)) (a : M (List D)) : M (List D) := bnd a fun x => lift (g x)
section
variable {X : Cx} {cf : Cf} {W : WX} {c : Cls} {n : Bool} {tg : Expr}
theorem SdI.mk {wi : TI} {fi : M (List D)} (h1 : ∀ R Hs env σ H F wf, Rel cf R Hs env σ H F wf → ∀ ds env', fi env = .ok ds env' → ∀ Rk : It → Hp → Prop, (∀ J Hs' H', Stp cf wf env Hs H env' Hs' H' → Rel cf R Hs' env' σ H' F wf → ItOk cf.K J Hs' ds → Rk J H') → wi σ H Rk)
    (h2 : ∀ R Hs env σ H F wf, Rel cf R Hs env σ H F wf → ∀ x env', fi env = .ex x env' → ∀ Rk : It → Hp → Prop, (∀ Hs' H', Stp cf wf env Hs H env' Hs' H' → Rel cf R Hs' env' σ H' F wf → W (cf.cv x) none σ H') → wi σ H Rk) : SdI cf W wi fi := by
  intro R Hs env σ H F wf r Q
  cases q : fi env with
  | ok d env' => exact h1 R Hs env σ H F wf r d env' q Q
  | ex x env' => exact h2 R Hs env σ H F wf r x env' q Q
  | stuck => trivial
theorem asL_some {d : D} {ds : List D} (h : asL d = some ds) : d = .lst ds := by
  unfold asL at h; split at h <;> cases h; rfl
theorem si_list {e : Expr} {te : TE} {f : M D} (hK : cf.K = X.K) (h : SE X cf W .S n e te f) : SI X cf W tg e (iList cf.K te) (iL f) := by
  rw [hK]
  obtain ⟨p, s⟩ := h
  refine ⟨pi_list p, SdI.mk (fun R Hs env σ H F wf r ds env' q Rk k => ?_) (fun R Hs env σ H F wf r x env' q Rk k => ?_)⟩
  · obtain ⟨d1, env1, q1, q⟩ := bnd_ok q
    obtain ⟨qg, rfl⟩ := lift_ok q
    cases asL_some qg
    refine s.ok r q1 fun v Hs1 H1 s1 r1 p1 _ => ?_
    obtain ⟨a, xs, rfl, h1, h2⟩ := p1.lst_inv
    exact ⟨a, rfl, ⟨xs, .inl (.inl (r1.exs _ _ h1))⟩, k _ Hs1 H1 s1 r1 (by rw [← hK]; exact itl_ok h1 h2)⟩
  · rcases bnd_ex q with q | ⟨d1, env1, q1, q⟩
    · exact s.exn r q k
    · exact (lift_ex q).elim
theorem smallI_of {i : Int} (h : smallI i = true) : -(2 ^ 62) ≤ i ∧ i < 2 ^ 62 := of_decide_eq_true h
theorem si_range1 {a : Expr} {ta : TA} {fa : M (List D)} {p pos : Pos} (hg : Gl X "range") (hm : X.mg "range" = none) (ha : SA X cf W c [a] ta fa) (hs : starEach [a] X.env = [(false, eval a X.env)] := by rfl) : SI X cf W tg (.Call (.Name "range" p) [a] [] pos) (iRng1 ta) (iN gR1 fa) := by
  obtain ⟨q, s⟩ := ha
  refine ⟨pi_range1 hg hm q hs, SdI.mk (fun R Hs env σ H F wf r ds env' q Rk k => ?_) (fun R Hs env σ H F wf r x env' q Rk k => ?_)⟩
  · obtain ⟨d1, env1, q1, q⟩ := bnd_ok q
    obtain ⟨qg, rfl⟩ := lift_ok q
    unfold gR1 at qg
    split at qg
    · split at qg
      · rename_i hb
        cases qg
        refine s.ok r q1 fun v Hs1 H1 s1 r1 p1 => ?_
        obtain ⟨w, rfl, hw⟩ := p1.one
        exact ⟨_, by rw [hw.int_inv], (smallI_of hb).1, (smallI_of hb).2, k _ Hs1 H1 s1 r1 itr_ok⟩
      · cases qg
    · cases qg
  · rcases bnd_ex q with q | ⟨d1, env1, q1, q⟩
    · exact s.exn r q k
    · exact (lift_ex q).elim
theorem si_range2 {a b : Expr} {ta : TA} {fa : M (List D)} {p pos : Pos} (hg : Gl X "range") (hm : X.mg "range" = none) (ha : SA X cf W c [a, b] ta fa) (hs : starEach [a, b] X.env = [(false, eval a X.env), (false, eval b X.env)] := by rfl) (hs2 : starEach [b] X.env = [(false, eval b X.env)] := by rfl) : SI X cf W tg (.Call (.Name "range" p) [a, b] [] pos) (iRng2 ta) (iN gR2 fa) := by
  obtain ⟨q, s⟩ := ha
  refine ⟨pi_range2 hg hm q hs hs2, SdI.mk (fun R Hs env σ H F wf r ds env' q Rk k => ?_) (fun R Hs env σ H F wf r x env' q Rk k => ?_)⟩
  · obtain ⟨d1, env1, q1, q⟩ := bnd_ok q
    obtain ⟨qg, rfl⟩ := lift_ok q
    unfold gR2 at qg
    split at qg
    · split at qg
      · rename_i hb
        cases qg
        rw [Bool.and_eq_true] at hb
        refine s.ok r q1 fun v Hs1 H1 s1 r1 p1 => ?_
        obtain ⟨w, w2, rfl, hw, hw2⟩ := p1.two
        exact ⟨_, _, by rw [hw.int_inv, hw2.int_inv], ⟨(smallI_of hb.1).1, (smallI_of hb.1).2, (smallI_of hb.2).1, (smallI_of hb.2).2⟩, k _ Hs1 H1 s1 r1 itr_ok⟩
      · cases qg
    · cases qg
  · rcases bnd_ex q with q | ⟨d1, env1, q1, q⟩
    · exact s.exn r q k
    · exact (lift_ex q).elim
theorem si_enum {e : Expr} {ta : TA} {fa : M (List D)} {p pos tpos : Pos} {elts : List Expr} {kk : Nat} (hK : cf.K = X.K) (hg : Gl X "enumerate") (hm : X.mg "enumerate" = none) (ha : SA X cf W .S [e] ta fa) (hs : starEach [e] X.env = [(false, eval e X.env)] := by rfl) : SI X cf W (.Tuple elts kk tpos) (.Call (.Name "enumerate" p) [e] [] pos) (iEnum cf.K ta) (iN gEn fa) := by
  rw [hK]
  obtain ⟨q, s⟩ := ha
  refine ⟨pi_enum hg hm q hs, SdI.mk (fun R Hs env σ H F wf r ds env' q Rk k => ?_) (fun R Hs env σ H F wf r x env' q Rk k => ?_)⟩
  · obtain ⟨d1, env1, q1, q⟩ := bnd_ok q
    obtain ⟨qg, rfl⟩ := lift_ok q
    unfold gEn at qg
    split at qg
    · cases qg
      refine s.ok r q1 fun v Hs1 H1 s1 r1 p1 => ?_
      obtain ⟨w, rfl, hw⟩ := p1.one
      obtain ⟨a, xs, rfl, h1, h2⟩ := hw.lst_inv
      exact ⟨a, xs, rfl, .inl (.inl (r1.exs _ _ h1)), k _ Hs1 H1 s1 r1 (by rw [← hK]; exact ite_ok h1 h2)⟩
    · cases qg
  · rcases bnd_ex q with q | ⟨d1, env1, q1, q⟩
    · exact s.exn r q k
    · exact (lift_ex q).elim
theorem si_zip {e e2 : Expr} {ta : TA} {fa : M (List D)} {p pos tpos : Pos} {elts : List Expr} {kk : Nat} (hK : cf.K = X.K) (hg : Gl X "zip") (hm : X.mg "zip" = none) (ha : SA X cf W .S [e, e2] ta fa) (hs : starEach [e, e2] X.env = (false, eval e X.env) :: starEach [e2] X.env := by rfl) (hs2 : (backTo pos (starEach [e2] X.env)).any (·.1) = false := by rfl) : SI X cf W (.Tuple elts kk tpos) (.Call (.Name "zip" p) [e, e2] [] pos) (iZip cf.K ta) (iN gZp fa) := by
  rw [hK]
  obtain ⟨q, s⟩ := ha
  refine ⟨pi_zip hg hm q hs hs2, SdI.mk (fun R Hs env σ H F wf r ds env' q Rk k => ?_) (fun R Hs env σ H F wf r x env' q Rk k => ?_)⟩
  · obtain ⟨d1, env1, q1, q⟩ := bnd_ok q
    obtain ⟨qg, rfl⟩ := lift_ok q
    unfold gZp at qg
    split at qg
    · cases qg
      refine s.ok r q1 fun v Hs1 H1 s1 r1 p1 => ?_
      obtain ⟨w, w2, rfl, hw, hw2⟩ := p1.two
      obtain ⟨a, xs, rfl, h1, h2⟩ := hw.lst_inv
      obtain ⟨b, ys, rfl, h3, h4⟩ := hw2.lst_inv
      exact ⟨a, b, xs, ys, rfl, .inl (.inl (r1.exs _ _ h1)), .inl (.inl (r1.exs _ _ h3)), k _ Hs1 H1 s1 r1 (by rw [← hK]; exact itz_ok h1 h2 h3 h4)⟩
    · cases qg
  · rcases bnd_ex q with q | ⟨d1, env1, q1, q⟩
    · exact s.exn r q k
    · exact (lift_ex q).elim
def tgN (i : Nat) : D → M Unit := fun d e => .ok () (e.set i (some d))
def setAll : List Nat → List D → PEnv → Option PEnv
  | [], [], e => some e
  | i :: is, d :: ds, e => setAll is ds (e.set i (some d))
  | _, _, _ => none
def tgT (is : List Nat) : D → M Unit := fun d e => match d with
  | .tup ds => match setAll is ds e with
    | some e' => .ok () e'
    | none => .stuck
  | _ => .stuck
def SdG (cf : Cf) (is : List Nat) (g : TG) (tg : D → M Unit) : Prop :=
  ∀ (R : Rs) (Hs : Hp) (env : PEnv) (σ : L2.St) (H : Hp) (F : Nat → List Addr) (wf : List Addr), Rel cf R Hs env σ H F wf → ∀ (d : D) (v : V), Rp cf.K true Hs v d → ∀ Q : L2.St → Hp → Prop,
    match tg d env with
    | .ok _ env' => (∀ σ', Rel cf R Hs env' σ' H F wf → wipe σ' is = wipe σ is → (∀ j, j ∉ is → env'[j]? = env[j]?) → Q σ' H) → g v σ H Q
    | .ex _ _ => False
    | .stuck => True
structure SGt (X : Cx) (cf : Cf) (is : List Nat) (tg : Expr) (g : TG) (f : D → M Unit) : Prop where
  p : PG X tg g
  s : SdG cf is g f
theorem wipe_set (σ : L2.St) (i : Nat) (x : Option V) : ∀ is : List Nat, i ∈ is → wipe (σ.set i x) is = wipe σ is
  | [], h => by cases h
  | j :: is, h => by
    unfold wipe
    by_cases e : i ∈ is
    · rw [wipe_set σ i x is e]
    · have : i = j := (List.mem_cons.mp h).resolve_right e
      subst this
      have hh : ∀ is : List Nat, i ∉ is → wipe (σ.set i x) is = (wipe σ is).set i x := by
        intro is
        induction is with
        | nil => intro _; rfl
        | cons k is ih =>
          intro hn
          unfold wipe
          rw [ih (fun m => hn (List.mem_cons_of_mem _ m)), List.set_comm _ _ (fun e => hn (by rw [e]; exact List.mem_cons_self))]
      rw [hh is e, List.set_set]
theorem sgt_name {i : Nat} {x : Str} {pos : Pos} {is : List Nat} (hm : i ∈ is) (hk : cf.kd i = .S) (hN : X.N.Nodup) (hi : X.N[i]? = some x) (hx : Loc X.env.scope x) (hf : X.fn x = true ∨ X.env.scope.names.lookup x = some .local := by first | exact .inl rfl | exact .inr rfl | assumption) : SGt X cf is (.Name x pos) (gName i) (tgN i) :=
  ⟨pg_name hN hi hx hf, fun R Hs env σ H F wf r d v p Q k => k _ (r.put (by rw [hk]; exact fun z => by cases z) fun F' => by rw [hk]; exact p) (wipe_set σ i _ is hm) fun j hj => List.getElem?_set_ne (fun e => hj (by rw [← e]; exact hm))⟩
def SdGs (cf : Cf) (is js : List Nat) (g : TGs) : Prop :=
  ∀ (R : Rs) (Hs : Hp) (env : PEnv) (σ : L2.St) (H : Hp) (F : Nat → List Addr) (wf : List Addr), Rel cf R Hs env σ H F wf → ∀ (ds : List D) (vs : List V), RpL cf.K true Hs vs ds → ∀ Q : L2.St → Hp → Prop, ∀ env', setAll js ds env = some env' →
    (∀ σ', Rel cf R Hs env' σ' H F wf → wipe σ' is = wipe σ is → (∀ j, j ∉ is → env'[j]? = env[j]?) → Q σ' H) → g vs σ H Q
structure SGts (X : Cx) (cf : Cf) (is js : List Nat) (ts : List Expr) (g : TGs) : Prop where
  p : PGs X ts g
  s : SdGs cf is js g
theorem sgts_nil {is : List Nat} : SGts X cf is [] [] gNil := ⟨pgs_nil, fun R Hs env σ H F wf r ds vs p Q env' q k => by
  cases p with
  | nil => rw [setAll] at q; cases q; exact ⟨rfl, k σ r rfl fun _ _ => rfl⟩
  | cons _ _ => rw [setAll] at q <;> first | cases q | (intros; rintro ⟨⟩)⟩
theorem sgts_cons {is js : List Nat} {i : Nat} {x : Str} {pos : Pos} {es : List Expr} {g : TGs} (hm : i ∈ is) (hk : cf.kd i = .S) (hN : X.N.Nodup) (hi : X.N[i]? = some x) (hx : Loc X.env.scope x) (h2 : SGts X cf is js es g) (hf : X.fn x = true ∨ X.env.scope.names.lookup x = some .local := by first | exact .inl rfl | exact .inr rfl | assumption)
    (hs : (assignEach (.Name x pos :: es) X.env).map (·.2) = assign (.Name x pos) X.env :: (assignEach es X.env).map (·.2) := by rfl) : SGts X cf is (i :: js) (.Name x pos :: es) (gCons (gName i) g) := by
  obtain ⟨p, s⟩ := h2
  refine ⟨pgs_cons (pg_name hN hi hx hf) p hs, fun R Hs env σ H F wf r ds vs p Q env' q k => ?_⟩
  cases p with
  | nil => rw [setAll] at q <;> first | cases q | (intros; rintro ⟨⟩)
  | cons h1 h2 =>
    rw [setAll] at q
    refine ⟨_, _, rfl, ?_⟩
    refine s R Hs _ _ H F wf (r.put (by rw [hk]; exact fun z => by cases z) fun F' => by rw [hk]; exact h1) _ _ h2 Q env' q fun σ' r' w' kj => ?_
    exact k σ' r' (w'.trans (wipe_set σ i _ is hm)) fun j hj => (kj j hj).trans (List.getElem?_set_ne (fun e => hj (by rw [← e]; exact hm)))
theorem sgt_tup {is js : List Nat} {es : List Expr} {g : TGs} {k : Nat} {pos : Pos} (hK : cf.K = X.K) (hc : X.calm = true) (h : SGts X cf is js es g) (hl : es.length = js.length)
    (hn : (assignEach es X.env).length = js.length := by rfl) (hst : (assignEach es X.env).findIdx? (·.1) = none := by rfl) : SGt X cf is (.Tuple es k pos) (gTup cf.K js.length g) (tgT js) := by
  rw [hK]
  obtain ⟨p, s⟩ := h
  refine ⟨pg_tup hc p hn hst, fun R Hs env σ H F wf r d v p Q => ?_⟩
  cases d with
  | tup ds =>
    cases q : setAll js ds env with
    | none =>
      have e1 : tgT js (.tup ds) env = .stuck := by simp only [tgT, q]
      rw [e1]; trivial
    | some env' =>
      have e1 : tgT js (.tup ds) env = .ok () env' := by simp only [tgT, q]
      rw [e1]
      intro kk
      obtain ⟨a, xs, rfl, h1, h2⟩ := p.tup_inv
      have hlen : ∀ (js : List Nat) (ds : List D) (e e' : PEnv), setAll js ds e = some e' → ds.length = js.length := by
        intro js
        induction js with
        | nil => intro ds e e' q; cases ds with
          | nil => rfl
          | cons _ _ => rw [setAll] at q <;> first | cases q | (intros; rintro ⟨⟩)
        | cons j js ih => intro ds e e' q; cases ds with
          | nil => rw [setAll] at q <;> first | cases q | (intros; rintro ⟨⟩)
          | cons d ds => rw [setAll] at q; rw [List.length_cons, List.length_cons, ih ds _ _ q]
      refine ⟨a, xs, rfl, .inl (.inl (r.exs _ _ h1)), by rw [h2.length, hlen js ds env env' q], ?_⟩
      exact s R Hs env σ H F wf r ds xs h2 Q env' q kk
  | _ => unfold tgT; trivial
def sForL (tg : D → M Unit) (b : M Fl) : List D → M Fl
  | [] => ret .nx
  | d :: r => bnd (tg d) fun _ => bnd b (sAft (sForL tg b r))
def sFor (fi : M (List D)) (tg : D → M Unit) (b : M Fl) : M Fl := bnd fi fun ds => sForL tg b ds
theorem ss_for {iter : Expr} {body : List Stmt} {wi : TI} {g : TG} {fi : M (List D)} {is : List Nat} {ft : D → M Unit} {fb : M Fl} {pos : Pos} (hp : PassesOwn (model X.prog X.w) X.A X.env X.xe) (hc : X.calm = true) (hi : SI X cf W tg iter wi fi) (hg : SGt X cf is tg g ft) (hb : SSs X cf W body fb)
    (hs : ∀ x, foldedSetIterable iter X.env x = pure x := by intro _; rfl) : SS X cf W (.For tg iter body [] pos) (sFor fi ft fb) := by
  obtain ⟨pi, si⟩ := hi
  obtain ⟨pg, sg⟩ := hg
  obtain ⟨tb, pb, sb⟩ := hb
  refine ⟨_, ps_for hp hc pi pg pb hs, fun R Hs env σ H F wf r D hp => ?_⟩
  have h := si R Hs env σ H F wf r
  unfold sFor bnd at hp
  cases q : fi env with
  | stuck => rw [q] at hp; exact hp.elim
  | ex x env1 =>
    rw [q] at hp
    have h := h fun J H1 => ∃ W : Nat → Nat → L2.St → Hp → Prop, (∃ m, W 0 m σ H1) ∧ ∀ i m σ H, W i m σ H → (J.stop i H ∧ D.nx σ H) ∨ (J.go i H ∧ ∃ N : L2.St → Hp → Prop, (∀ σ' H', N σ' H' → ∃ m', m' < m ∧ W (i + 1) m' σ' H') ∧ ∀ x H', J.yld i H x H' → g x σ H' fun σ2 H2 => tb { D with nx := N, ct := N, bk := D.nx } σ2 H2)
    rw [q] at h
    exact h fun Hs1 H1 s1 r1 => hp Hs1 σ H1 F wf s1.ex r1
  | ok ds env1 =>
    rw [q] at hp
    have h := h fun J H1 => ∃ W : Nat → Nat → L2.St → Hp → Prop, (∃ m, W 0 m σ H1) ∧ ∀ i m σ H, W i m σ H → (J.stop i H ∧ D.nx σ H) ∨ (J.go i H ∧ ∃ N : L2.St → Hp → Prop, (∀ σ' H', N σ' H' → ∃ m', m' < m ∧ W (i + 1) m' σ' H') ∧ ∀ x H', J.yld i H x H' → g x σ H' fun σ2 H2 => tb { D with nx := N, ct := N, bk := D.nx } σ2 H2)
    rw [q] at h
    refine h fun J Hs1 H1 s1 r1 it => ?_
    refine ⟨fun i m σ H => ∃ Hs2 env2 F2 wf2, Ex Hs1 Hs2 ∧ Rel cf R Hs2 env2 σ H F2 wf2 ∧ i ≤ ds.length ∧ m = ds.length - i ∧ Post cf W R Hs2 D (sForL ft fb (ds.drop i) env2),
      ⟨ds.length, Hs1, env1, F, wf, Ex.refl _, r1, Nat.zero_le _, by simp, by rw [List.drop_zero]; exact Post.mono s1.ex hp⟩, ?_⟩
    rintro i m σ H ⟨Hs2, env2, F2, wf2, e2, r2, hi, rfl, hp⟩
    by_cases hlt : i < ds.length
    · refine .inr ⟨it.go i H hlt (e2.trans r2.exs), fun σ' H' => ∃ Hs3 env3 F3 wf3, Ex Hs1 Hs3 ∧ Rel cf R Hs3 env3 σ' H' F3 wf3 ∧ Post cf W R Hs3 D (sForL ft fb (ds.drop (i + 1)) env3), fun σ' H' hN => ?_, fun x H' y => ?_⟩
      · obtain ⟨Hs3, env3, F3, wf3, e3, r3, hp3⟩ := hN
        exact ⟨ds.length - (i + 1), by omega, Hs3, env3, F3, wf3, e3, r3, hlt, rfl, hp3⟩
      · obtain ⟨eg, hy⟩ := it.yld i H x H' (e2.trans r2.exs) hlt y
        obtain ⟨d, hd, hr⟩ := hy Hs2 e2 r2.exs
        have ed : ds.drop i = d :: ds.drop (i + 1) := by
          rw [List.drop_eq_getElem_cons hlt]
          rw [List.getElem?_eq_getElem hlt] at hd
          cases hd
          rfl
        rw [ed, sForL] at hp
        have r3 := r2.grow eg
        have e3 : Ex Hs2 (grow Hs2 H H') := Ex.grow r2.exs eg
        have hg := sg R _ env2 σ H' F2 wf2 r3 d x hr fun σ2 H2 => tb { D with nx := fun σ' H' => ∃ Hs3 env3 F3 wf3, Ex Hs1 Hs3 ∧ Rel cf R Hs3 env3 σ' H' F3 wf3 ∧ Post cf W R Hs3 D (sForL ft fb (ds.drop (i + 1)) env3), ct := fun σ' H' => ∃ Hs3 env3 F3 wf3, Ex Hs1 Hs3 ∧ Rel cf R Hs3 env3 σ' H' F3 wf3 ∧ Post cf W R Hs3 D (sForL ft fb (ds.drop (i + 1)) env3), bk := D.nx } σ2 H2
        cases qt : ft d env2 with
        | stuck =>
          rw [bnd_of_stuck qt] at hp; exact hp.elim
        | ex x env3 => rw [qt] at hg; exact hg.elim
        | ok u env3 =>
          rw [bnd_of_ok qt] at hp
          rw [qt] at hg
          refine hg fun σ2 r4 _ _ => ?_
          refine sb R _ env3 σ2 H' F2 wf2 r4 _ ?_
          have hp : Post cf W R _ D (bnd fb (sAft (sForL ft fb (ds.drop (i + 1)))) env3) := Post.mono e3 hp
          unfold bnd at hp
          cases qb : fb env3 with
          | ok f env4 =>
            rw [qb] at hp
            cases f with
            | nx => exact fun Hs' σ' H' F' wf' e r' => ⟨Hs', env4, F', wf', (e2.trans e3).trans e, r', Post.mono e hp⟩
            | ct => exact fun Hs' σ' H' F' wf' e r' => ⟨Hs', env4, F', wf', (e2.trans e3).trans e, r', Post.mono e hp⟩
            | bk => exact fun Hs' σ' H' F' wf' e r' => hp Hs' σ' H' F' wf' e r'
            | rt d => exact hp
          | ex x env4 => rw [qb] at hp; exact hp
          | stuck => rw [qb] at hp; exact hp
    · have e : i = ds.length := by omega
      subst e
      rw [List.drop_length] at hp
      exact .inl ⟨it.stop H (e2.trans r2.exs), hp Hs2 σ H F2 wf2 (Ex.refl _) r2⟩
end
end MV
namespace MV
open PySem L2
abbrev W0 : WX := fun _ _ _ _ => False
def wipeE : List Nat → PEnv → PEnv
  | [], e => e
  | v :: vs, e => (wipeE vs e).set v none
def restE : List Nat → PEnv → PEnv → PEnv
  | [], _, e1 => e1
  | v :: vs, e, e1 => (restE vs e e1).set v ((e[v]?).getD none)
theorem wipeE_len : ∀ (is : List Nat) (e : PEnv), (wipeE is e).length = e.length
  | [], _ => rfl
  | v :: vs, e => by unfold wipeE; rw [List.length_set, wipeE_len vs e]
theorem restE_len : ∀ (is : List Nat) (e e1 : PEnv), (restE is e e1).length = e1.length
  | [], _, _ => rfl
  | v :: vs, e, e1 => by unfold restE; rw [List.length_set, restE_len vs e e1]
theorem wipeE_get {is : List Nat} {e : PEnv} {j : Nat} {d : D} (h : (wipeE is e)[j]? = some (some d)) : e[j]? = some (some d) ∧ j ∉ is := by
  induction is with
  | nil => exact ⟨h, by simp⟩
  | cons v vs ih =>
    unfold wipeE at h
    rcases get_set h with ⟨_, z, _⟩ | ⟨ne, h⟩
    · cases z
    · obtain ⟨h1, h2⟩ := ih h
      exact ⟨h1, fun m => (List.mem_cons.mp m).elim (fun z => ne z.symm) h2⟩
theorem wipeE_out {is : List Nat} {e : PEnv} {j : Nat} (h : j ∉ is) : (wipeE is e)[j]? = e[j]? := by
  induction is with
  | nil => rfl
  | cons v vs ih =>
    unfold wipeE
    rw [List.getElem?_set_ne (fun z => h (by rw [z]; exact List.mem_cons_self)), ih fun m => h (List.mem_cons_of_mem _ m)]
theorem restE_out {is : List Nat} {e e1 : PEnv} {j : Nat} (h : j ∉ is) : (restE is e e1)[j]? = e1[j]? := by
  induction is with
  | nil => rfl
  | cons v vs ih =>
    unfold restE
    rw [List.getElem?_set_ne (fun z => h (by rw [z]; exact List.mem_cons_self)), ih fun m => h (List.mem_cons_of_mem _ m)]
theorem restE_in {is : List Nat} {e e1 : PEnv} {j : Nat} (h : j ∈ is) (hl : e.length = e1.length) : (restE is e e1)[j]? = e[j]? := by
  induction is with
  | nil => cases h
  | cons v vs ih =>
    unfold restE
    by_cases z : v = j
    · subst z
      by_cases hv : v < e.length
      · rw [List.getElem?_set_self (by rw [restE_len]; omega), List.getElem?_eq_getElem hv]; rfl
      · rw [List.getElem?_eq_none (by rw [List.length_set, restE_len]; omega), List.getElem?_eq_none (by omega)]
    · rw [List.getElem?_set_ne z]
      exact ih ((List.mem_cons.mp h).resolve_left fun q => z q.symm)
def lcGo (is : List Nat) (tg : D → M Unit) (tt : M Bool) (fe : M D) : List D → List D → M (List D)
  | [], acc => ret acc
  | d :: r, acc => bnd (tg d) fun _ => bnd tt fun k =>
      if k then bnd fe fun y => bnd (lift (if acc.length < LIM then some () else none)) fun _ => fun e => lcGo is tg tt fe r (acc ++ [y]) (wipeE is e)
      else fun e => lcGo is tg tt fe r acc (wipeE is e)
def eLc (is : List Nat) (fi : M (List D)) (tg : D → M Unit) (tt : M Bool) (fe : M D) : M D := bnd fi fun ds => fun e => match lcGo is tg tt fe ds [] (wipeE is e) with
  | .ok acc e1 => .ok (.lst acc) (restE is e e1)
  | _ => .stuck
def tTrue : M Bool := ret true
structure ItOkW (K : PySem.W.Frag) (J : It) (G1 Hs1 : Hp) (ds : List D) : Prop where
  go : ∀ i H, i < ds.length → Ex G1 H → J.go i H
  stop : ∀ H, Ex G1 H → J.stop ds.length H
  yld : ∀ i H x H', Ex G1 H → i < ds.length → J.yld i H x H' → Ex H H' ∧ ∀ G, Ex Hs1 G → Ex G H → ∃ d, ds[i]? = some d ∧ Rp K true (grow G H H') x d
theorem ItOk.w {K : PySem.W.Frag} {J : It} {Hs1 : Hp} {ds : List D} (h : ItOk K J Hs1 ds) : ItOkW K J Hs1 Hs1 ds := ⟨h.go, h.stop, h.yld⟩
def SdIB (cf : Cf) (W : WX) (wi : TI) (fi : M (List D)) : Prop :=
  ∀ (R : Rs) (Hs : Hp) (env : PEnv) (σ : L2.St) (H : Hp) (F : Nat → List Addr) (wf : List Addr), Rel cf R Hs env σ H F wf → ∀ Rk : It → Hp → Prop,
    match fi env with
    | .ok ds env' => (∀ J G1 Hs' H', Stp cf wf env Hs H env' Hs' H' → Rel cf R Hs' env' σ H' F wf → Ex G1 (rm H' wf) → ItOkW cf.K J G1 Hs' ds → Rk J H') → wi σ H Rk
    | .ex x env' => (∀ Hs' H', Stp cf wf env Hs H env' Hs' H' → Rel cf R Hs' env' σ H' F wf → W (cf.cv x) none σ H') → wi σ H Rk
    | .stuck => True
structure SIB (X : Cx) (cf : Cf) (W : WX) (tg iter : Expr) (wi : TI) (fi : M (List D)) : Prop where
  p : PI X tg iter wi
  s : SdIB cf W wi fi
section
variable {X : Cx} {cf : Cf} {W : WX} {c : Cls} {n n1 : Bool}
theorem SdI.w {wi : TI} {fi : M (List D)} (h : SdI cf W wi fi) : SdIB cf W wi fi := fun R Hs env σ H F wf r Rk => by
  have h := h R Hs env σ H F wf r Rk
  cases q : fi env with
  | ok ds env' => rw [q] at h; exact fun k => h fun J Hs' H' s r' it => k J Hs' Hs' H' s r' (rg_le (c := .S) (c' := .B) .sb (H0 := R.H0) (Hst := H) r'.exs r.dom0 fun a m => (r'.wdom a m).2) it.w
  | ex x env' => rw [q] at h; exact h
  | stuck => trivial
theorem SI.w {tg iter : Expr} {wi : TI} {fi : M (List D)} (h : SI X cf W tg iter wi fi) : SIB X cf W tg iter wi fi := ⟨h.p, h.s.w⟩
def asLs : D → Option (List D)
  | .lst ds => if ds.all D.sc then some ds else none
  | _ => none
def iLs (f : M D) : M (List D) := bnd f fun d => lift (asLs d)
theorem Rel.bump {R : Rs} {Hs : Hp} {env : PEnv} {σ : L2.St} {H : Hp} {F : Nat → List Addr} {wf : List Addr} {p : Addr} {o : HO} (r : Rel cf R Hs env σ H F wf) (hs : Hs p = none) (hF : ∀ i, p ∉ F i) : Rel cf R Hs env σ (upd H p o) F wf where
  len := r.len
  exs := fun a u h => by rw [upd_ne (fun e => by subst e; rw [hs] at h; cases h)]; exact r.exs a u h
  ex0 := r.ex0
  dom0 := fun a h => by
    by_cases e : a = p
    · subst e; rw [upd_same]; exact fun z => by cases z
    · rw [upd_ne e]; exact r.dom0 a h
  slot := fun j d h => by
    obtain ⟨w, h1, h2⟩ := r.slot j d h
    refine ⟨w, h1, ?_⟩
    have np : ∀ a ∈ F j, ∀ u, H a = some u → upd H p o a = some u := fun a m u h => by
      rw [upd_ne (fun e => by subst e; exact hF j m)]; exact h
    cases q : cf.kd j with
    | S => rw [q] at h2; exact h2
    | N => rw [q] at h2; exact h2
    | Q => rw [q] at h2; exact h2
    | P => rw [q] at h2; exact Own.keep (Ex.refl _) h2 np
    | M => rw [q] at h2; exact ⟨Own.keep (Ex.refl _) h2.1 np, h2.2⟩
    | W =>
      rw [q] at h2
      obtain ⟨p2, xs, ds, e1, e2, e3, e4, e5⟩ := h2
      exact ⟨p2, xs, ds, e1, e2, e3, np p2 (by rw [e3]; exact List.mem_singleton.mpr rfl) _ e4, e5⟩
  nod := r.nod
  dis := r.dis
  fdom := fun j a h => by
    by_cases e : a = p
    · subst e; rw [upd_same]; exact fun z => by cases z
    · rw [upd_ne e]; exact r.fdom j a h
  uns := r.uns
  new := r.new
  volw := r.volw
  volb := r.volb
  wdom := fun a h => by
    obtain ⟨h1, h2⟩ := r.wdom a h
    refine ⟨?_, h2⟩
    by_cases e : a = p
    · subst e; rw [upd_same]; exact fun z => by cases z
    · rw [upd_ne e]; exact h1
  ior := r.ior
theorem Rel.share {R : Rs} {Hs : Hp} {env : PEnv} {σ : L2.St} {H : Hp} {F : Nat → List Addr} {wf : List Addr} {p : Addr} {o : HO} (r : Rel cf R Hs env σ H F wf) (hs : Hs p = none) (hH : H p = some o) (hF : ∀ i, p ∉ F i) (hw : p ∉ wf) : Rel cf R (upd Hs p o) env σ H F wf where
  len := r.len
  exs := fun a u h => by
    by_cases e : a = p
    · subst e; rw [upd_same] at h; cases h; exact hH
    · rw [upd_ne e] at h; exact r.exs a u h
  ex0 := fun a u h n => Ex.new hs a u (r.ex0 a u h n)
  dom0 := r.dom0
  slot := fun j d h => by
    obtain ⟨w, h1, h2⟩ := r.slot j d h
    refine ⟨w, h1, ?_⟩
    cases q : cf.kd j with
    | S => rw [q] at h2; exact Rp.mono (Ex.new hs) h2
    | N => rw [q] at h2; exact Rp.mono (rs_mono (Ex.new hs)) h2
    | Q => rw [q] at h2; exact Rp.mono (Ex.new hs) h2
    | P => rw [q] at h2; exact Own.mono (th_mono (rs_mono (Ex.new hs))) (Ex.refl _) h2
    | M => rw [q] at h2; exact ⟨Own.mono (rs_mono (Ex.new hs)) (Ex.refl _) h2.1, h2.2⟩
    | W => rw [q] at h2; exact h2
  nod := r.nod
  dis := r.dis
  fdom := r.fdom
  uns := fun j a h => by rw [upd_ne (fun e => by subst e; exact hF j h)]; exact r.uns j a h
  new := r.new
  volw := r.volw
  volb := r.volb
  wdom := fun a h => ⟨(r.wdom a h).1, by rw [upd_ne (fun e => by subst e; exact hw h)]; exact (r.wdom a h).2⟩
  ior := r.ior
theorem Rel.wipe {R : Rs} {Hs : Hp} {env : PEnv} {σ σ' : L2.St} {H : Hp} {F : Nat → List Addr} {wf : List Addr} {is : List Nat} (r : Rel cf R Hs env σ H F wf) (hk : ∀ i ∈ is, cf.kd i = .S) (hw : L2.wipe σ is = L2.wipe σ' is) : Rel cf R Hs (wipeE is env) (L2.wipe σ' is) H F wf where
  len := by rw [wipeE_len, ← hw, wipe_length]; exact r.len
  exs := r.exs
  ex0 := r.ex0
  dom0 := r.dom0
  slot := fun j d h => by
    obtain ⟨h1, h2⟩ := wipeE_get h
    obtain ⟨v, h3, h4⟩ := r.slot j d h1
    exact ⟨v, by rw [← hw, wipe_out h2]; exact h3, h4⟩
  nod := r.nod
  dis := r.dis
  fdom := r.fdom
  uns := r.uns
  new := r.new
  volw := r.volw
  volb := r.volb
  wdom := r.wdom
  ior := fun p h => by
    obtain ⟨h1, h2, h3, d, h4⟩ := r.ior p h
    have n0 : 0 ∉ is := fun m => by rw [hk 0 m] at h3; cases h3
    exact ⟨by rw [← hw, wipe_out n0]; exact h1, h2, h3, d, by rw [wipeE_out n0]; exact h4⟩
theorem Rel.rest {R : Rs} {Hs0 Hs : Hp} {env0 env : PEnv} {σ : L2.St} {H0 H : Hp} {F : Nat → List Addr} {wf : List Addr} {is : List Nat} (r0 : Rel cf R Hs0 env0 σ H0 F wf) (r : Rel cf R Hs env (L2.wipe σ is) H F wf) (ex : Ex Hs0 Hs) (hk : ∀ i ∈ is, cf.kd i = .S) : Rel cf R Hs (restE is env0 env) σ H F wf where
  len := by rw [restE_len]; have := r.len; rw [wipe_length] at this; exact this
  exs := r.exs
  ex0 := r.ex0
  dom0 := r.dom0
  slot := fun j d h => by
    by_cases m : j ∈ is
    · rw [restE_in m (by have := r.len; rw [wipe_length] at this; rw [this, r0.len])] at h
      obtain ⟨v, h1, h2⟩ := r0.slot j d h
      rw [hk j m] at h2 ⊢
      exact ⟨v, h1, Rp.mono ex h2⟩
    · rw [restE_out m] at h
      obtain ⟨v, h1, h2⟩ := r.slot j d h
      exact ⟨v, (wipe_some h1).1, h2⟩
  nod := r.nod
  dis := r.dis
  fdom := r.fdom
  uns := r.uns
  new := r.new
  volw := r.volw
  volb := r.volb
  wdom := r.wdom
  ior := fun p h => by
    obtain ⟨h1, h2, h3, d, h4⟩ := r.ior p h
    have n0 : 0 ∉ is := fun m => by rw [hk 0 m] at h3; cases h3
    exact ⟨(wipe_some h1).1, h2, h3, d, by rw [restE_out n0]; exact h4⟩
def Cls.sh : Cls → Bool
  | .L => false
  | .B => false
  | _ => true
theorem rg_sh {c : Cls} (h : c.sh = true) {H0 Hs Hst H H' : Hp} {wf wf' : List Addr} : rg c H0 Hs Hst H wf = rg c H0 Hs Hst H' wf' := by
  cases c <;> first | rfl | cases h
theorem rg_shm {c : Cls} (h : c.sh = true) {H0 Hs Hs' Hst H H' : Hp} {wf wf' : List Addr} (e : Ex Hs Hs') : Ex (rg c H0 Hs Hst H wf) (rg c H0 Hs' Hst H' wf') := by
  cases c with
  | V => exact rs_mono e
  | N => exact rs_mono e
  | S => exact e
  | L => cases h
  | B => cases h
theorem sdt_true : SdT cf W tYes tTrue := fun R Hs env σ H F wf r Q k => k Hs H Stp.refl r
theorem sd_lc {wi : TI} {g : TG} {tt : TT} {te : TE} {is : List Nat} {fi : M (List D)} {tg : D → M Unit} {ft : M Bool} {fe : M D} (hc : c.sh = true) (hk : ∀ i ∈ is, cf.kd i = .S) (si : SdIB cf W wi fi) (sg : SdG cf is g tg) (st : SdT cf W0 tt ft) (se : Sd cf W0 c n1 te fe) : Sd cf W c true (tLc wi g tt te is) (eLc is fi tg ft fe) := by
  refine Sd.mk (fun R Hs env σ H F wf r d env' q Q k => ?_) (fun R Hs env σ H F wf r x env' q Q k => ?_)
  · obtain ⟨ds, env1, q1, q⟩ := bnd_ok q
    have h := si R Hs env σ H F wf r
    refine (show ∀ Rk : It → Hp → Prop, (∀ J G1 Hs' H', Stp cf wf env Hs H env1 Hs' H' → Rel cf R Hs' env1 σ H' F wf → Ex G1 (rm H' wf) → ItOkW cf.K J G1 Hs' ds → Rk J H') → wi σ H Rk from fun Rk kk => by
      have h := h Rk
      rw [q1] at h
      exact h kk) _ fun J G1 Hs1 H1 s1 r1 hG it => ?_
    intro Dp hD
    cases q2 : lcGo is tg ft fe ds [] (wipeE is env1) with
    | stuck => simp only [q2] at q; cases q
    | ex x e2 => simp only [q2] at q; cases q
    | ok acc e2 =>
    simp only [q2] at q
    cases q
    have rw0 : Rel cf R Hs1 (wipeE is env1) (L2.wipe σ is) H1 F wf := r1.wipe hk rfl
    have dF : ∀ i, Dp ∉ F i := fun i m => r1.fdom i Dp m hD
    have dW : Dp ∉ wf := fun m => (r1.wdom Dp m).1 hD
    have dS : Hs1 Dp = none := r1.exs.back hD
    have dst : H Dp = none := by
      cases z : H Dp with
      | none => rfl
      | some o => exact absurd hD (s1.dom Dp (by rw [z]; exact fun y => by cases y))
    refine ⟨fun i m H' => ∃ Hs2 env2 accV acc2, i ≤ ds.length ∧ m = ds.length - i ∧ Stp cf wf (wipeE is env1) Hs1 H1 env2 Hs2 H' ∧ Rel cf R Hs2 env2 (L2.wipe σ is) H' F wf ∧ H' Dp = some (.lst accV) ∧ Hs2 Dp = none ∧ RpL cf.K true (rg c R.H0 Hs2 H H1 wf) accV acc2 ∧ lcGo is tg ft fe (ds.drop i) acc2 env2 = .ok acc e2,
      ⟨ds.length, Hs1, wipeE is env1, [], [], Nat.zero_le _, by simp, ⟨fun a h => (Ex.new hD).dom h, Ex.refl _, fun a o _ h => Ex.new hD a o h, fun _ _ => rfl, fun _ _ => rfl⟩, rw0.bump dS dF, upd_same, dS, .nil, by rw [List.drop_zero]; exact q2⟩, ?_⟩
    rintro i m H' ⟨Hs2, env2, accV, acc2, hi, rfl, s2, r2, hD2, hS2, ra, q3⟩
    have e12 : Ex G1 H' := fun a o h => by
      have h := hG a o h
      unfold rm at h
      split at h
      · cases h
      · rename_i hw; exact s2.keep a o hw h
    by_cases hlt : i < ds.length
    · refine .inr ⟨it.go i H' hlt e12, fun H'' => ∃ Hs2 env2 accV acc2, Stp cf wf (wipeE is env1) Hs1 H1 env2 Hs2 H'' ∧ Rel cf R Hs2 env2 (L2.wipe σ is) H'' F wf ∧ H'' Dp = some (.lst accV) ∧ Hs2 Dp = none ∧ RpL cf.K true (rg c R.H0 Hs2 H H1 wf) accV acc2 ∧ lcGo is tg ft fe (ds.drop (i + 1)) acc2 env2 = .ok acc e2, fun H'' hN => ?_, fun x H3 y => ?_⟩
      · obtain ⟨Hs3, env3, accV3, acc3, z⟩ := hN
        exact ⟨ds.length - (i + 1), by omega, Hs3, env3, accV3, acc3, hlt, rfl, z⟩
      · obtain ⟨eg, hy⟩ := it.yld i H' x H3 e12 hlt y
        obtain ⟨d, hd, hr⟩ := hy Hs2 s2.ex r2.exs
        have ed : ds.drop i = d :: ds.drop (i + 1) := by
          rw [List.drop_eq_getElem_cons hlt]
          rw [List.getElem?_eq_getElem hlt] at hd
          cases hd
          rfl
        rw [ed, lcGo] at q3
        obtain ⟨u, env3, qt, q4⟩ := bnd_ok q3
        obtain ⟨b, env4, qb, q5⟩ := bnd_ok q4
        have r3 := r2.grow eg
        have s3 : Stp cf wf env2 Hs2 H' env2 (grow Hs2 H' H3) H3 := Stp.grow r2.exs eg
        have hD3 : H3 Dp = some (.lst accV) := eg _ _ hD2
        have hS3 : grow Hs2 H' H3 Dp = none := by rw [grow_some hD2]; exact hS2
        have hg := sg R _ env2 (L2.wipe σ is) H3 F wf r3 d x hr
        refine (show ∀ Q : L2.St → Hp → Prop, (∀ σ', Rel cf R (grow Hs2 H' H3) env3 σ' H3 F wf → L2.wipe σ' is = L2.wipe (L2.wipe σ is) is → (∀ j, j ∉ is → env3[j]? = env2[j]?) → Q σ' H3) → g x (L2.wipe σ is) H3 Q from fun Q kk => by
          have hg := hg Q
          rw [qt] at hg
          exact hg kk) _ fun σ2 r4 w4 kj => ?_
        have ww : L2.wipe (L2.wipe σ is) is = L2.wipe σ is := by
          have : ∀ (js : List Nat), (∀ j ∈ js, j ∈ is) → L2.wipe (L2.wipe σ is) js = L2.wipe σ is := by
            intro js
            induction js with
            | nil => intro _; rfl
            | cons v vs ih =>
              intro hj
              show (L2.wipe (L2.wipe σ is) vs).set v none = L2.wipe σ is
              rw [ih fun j m => hj j (List.mem_cons_of_mem _ m)]
              apply List.ext_getElem?
              intro j
              by_cases e : v = j
              · subst e
                by_cases hl : v < (L2.wipe σ is).length
                · rw [List.getElem?_set_self hl]
                  cases z : (L2.wipe σ is)[v]? with
                  | none => rw [List.getElem?_eq_getElem hl] at z; cases z
                  | some o =>
                    cases o with
                    | none => rfl
                    | some w => exact absurd (hj v List.mem_cons_self) (wipe_some z).2
                · rw [List.getElem?_eq_none (by rw [List.length_set]; omega), List.getElem?_eq_none (by omega)]
              · rw [List.getElem?_set_ne e]
          exact this is fun _ m => m
        rw [ww] at w4
        refine ⟨w4, ?_⟩
        have kp4 : ∀ j, cf.kd j ≠ .W → j ∉ is → env3[j]? = (wipeE is env1)[j]? := fun j hj hn => (kj j hn).trans (s2.kp j hj)
        refine st.ok r4 qb fun Hs5 H5 s5 r5 => ?_
        have hD5 : H5 Dp = some (.lst accV) := s5.keep _ _ dW hD3
        have hS5 : Hs5 Dp = none := by rw [s5.same Dp (by rw [hD3]; exact fun z => by cases z)]; exact hS3
        -- what holds behind a turn
        have fin : ∀ (Hs6 H6 : Hp) (env6 : PEnv) (accV6 : List V) (acc6 : List D), Stp cf wf env4 Hs5 H5 env6 Hs6 H6 → Rel cf R Hs6 env6 σ2 H6 F wf → RpL cf.K true (rg c R.H0 Hs6 H H1 wf) accV6 acc6 → lcGo is tg ft fe (ds.drop (i + 1)) acc6 (wipeE is env6) = .ok acc e2 → ∀ H7, (H7 = H6 ∧ accV6 = accV ∨ H7 = upd H6 Dp (.lst accV6)) →
            ∃ Hs2 env2 accV acc2, Stp cf wf (wipeE is env1) Hs1 H1 env2 Hs2 H7 ∧ Rel cf R Hs2 env2 (L2.wipe σ is) H7 F wf ∧ H7 Dp = some (.lst accV) ∧ Hs2 Dp = none ∧ RpL cf.K true (rg c R.H0 Hs2 H H1 wf) accV acc2 ∧ lcGo is tg ft fe (ds.drop (i + 1)) acc2 env2 = .ok acc e2 := by
          intro Hs6 H6 env6 accV6 acc6 s6 r6 ra6 q6 H7 h7
          have hD6 : H6 Dp = some (.lst accV) := s6.keep _ _ dW hD5
          have hS6 : Hs6 Dp = none := by rw [s6.same Dp (by rw [hD5]; exact fun z => by cases z)]; exact hS5
          have r6w : Rel cf R Hs6 (wipeE is env6) (L2.wipe σ is) H6 F wf := r6.wipe hk w4
          have kpw : ∀ j, cf.kd j ≠ .W → (wipeE is env6)[j]? = (wipeE is env1)[j]? := fun j hj => by
            by_cases m : j ∈ is
            · have hl : (wipeE is env6).length = (wipeE is env1).length := by rw [r6w.len, rw0.len]
              cases z : (wipeE is env6)[j]? with
              | none => rw [List.getElem?_eq_none_iff] at z; rw [List.getElem?_eq_none (by omega)]
              | some o =>
                cases o with
                | some w => exact absurd m (wipeE_get z).2
                | none =>
                  cases z2 : (wipeE is env1)[j]? with
                  | none => rw [List.getElem?_eq_none_iff] at z2; rw [List.getElem?_eq_none (by omega)] at z; cases z
                  | some o2 =>
                    cases o2 with
                    | some w => exact absurd m (wipeE_get z2).2
                    | none => rfl
            · rw [wipeE_out m, s6.kp j hj, s5.kp j hj, kp4 j hj m]
          have keep6 : ∀ a o, a ∉ wf → H1 a = some o → H6 a = some o := fun a o hw h => s6.keep a o hw (s5.keep a o hw (s3.keep a o hw (s2.keep a o hw h)))
          have dom6 : ∀ a, H1 a ≠ none → H6 a ≠ none := fun a h => s6.dom a (s5.dom a (s3.dom a (s2.dom a h)))
          have ex6 : Ex Hs1 Hs6 := ((s2.ex.trans s3.ex).trans s5.ex).trans s6.ex
          have same6 : ∀ a, H1 a ≠ none → Hs6 a = Hs1 a := fun a h => ((s6.same a (s5.dom a (s3.dom a (s2.dom a h)))).trans (s5.same a (s3.dom a (s2.dom a h)))).trans ((s3.same a (s2.dom a h)).trans (s2.same a h))
          rcases h7 with ⟨rfl, rfl⟩ | rfl
          · exact ⟨Hs6, wipeE is env6, accV6, acc6, ⟨dom6, ex6, keep6, same6, kpw⟩, r6w, hD6, hS6, ra6, q6⟩
          · refine ⟨Hs6, wipeE is env6, accV6, acc6, ⟨fun a h => ?_, ex6, fun a o hw h => ?_, same6, kpw⟩, r6w.bump hS6 dF, upd_same, hS6, ra6, q6⟩
            · have : a ≠ Dp := fun e => by subst e; exact h hD
              rw [upd_ne this]; exact dom6 a h
            · have : a ≠ Dp := fun e => by subst e; rw [hD] at h; cases h
              rw [upd_ne this]; exact keep6 a o hw h
        have ra5 : RpL cf.K true (rg c R.H0 Hs5 H H1 wf) accV acc2 := ra.mono (rg_shm hc (s3.ex.trans s5.ex))
        cases b with
        | false => exact fin Hs5 H5 env4 accV acc2 Stp.refl r5 ra5 q5 H5 (.inl ⟨rfl, rfl⟩)
        | true =>
          obtain ⟨y6, env6, qe, q6⟩ := bnd_ok q5
          obtain ⟨u2, env7, ql, q7⟩ := bnd_ok q6
          obtain ⟨ql, rfl⟩ := lift_ok ql
          split at ql
          · rename_i hl
            refine se.ok r5 qe fun v6 Hs6 H6 s6 r6 p6 _ => ?_
            refine ⟨accV, s6.keep _ _ dW hD5, by rw [ra.length]; exact lim_lt hl, ?_⟩
            have dd : ∀ a, H a ≠ none → H5 a ≠ none := fun a h => s5.dom a (s3.dom a (s2.dom a (s1.dom a h)))
            have p6' : Rp cf.K true (rg c R.H0 Hs6 H H1 wf) v6 y6 := by
              have := p6.mono (rg_start dd)
              rw [rg_sh hc (H' := H1) (wf' := wf)] at this
              exact this
            exact fin Hs6 H6 env7 (accV ++ [v6]) (acc2 ++ [y6]) s6 r6 ((ra5.mono (rg_shm hc s6.ex)).append (.cons p6' .nil)) q7 _ (.inr rfl)
          · cases ql
    · have e : i = ds.length := by omega
      subst e
      rw [List.drop_length, lcGo] at q3
      cases q3
      refine .inl ⟨it.stop H' e12, ?_⟩
      have exn : Ex Hs2 (upd Hs2 Dp (.lst accV)) := Ex.new hS2
      have r6 : Rel cf R (upd Hs2 Dp (.lst accV)) e2 (L2.wipe σ is) H' F wf := r2.share hS2 hD2 dF dW
      have r7 : Rel cf R (upd Hs2 Dp (.lst accV)) (restE is env1 e2) σ H' F wf := Rel.rest r1 r6 (s2.ex.trans exn) hk
      have hroot : rg c R.H0 (upd Hs2 Dp (.lst accV)) H H1 wf Dp = some (.lst accV) := by
        have h0 : R.H0 Dp = none := by
          cases z : R.H0 Dp with
          | none => rfl
          | some o => exact absurd hD (r1.dom0 Dp (by rw [z]; exact fun y => by cases y))
        cases c with
        | V => show rs _ _ Dp = _; rw [rs_none dst, upd_same]
        | N => show rs _ _ Dp = _; rw [rs_none h0, upd_same]
        | S => exact upd_same
        | L => cases hc
        | B => cases hc
      refine k (.ref Dp) (upd Hs2 Dp (.lst accV)) H' ⟨fun a h => s2.dom a (s1.dom a h), (s1.ex.trans s2.ex).trans exn, fun a o hw h => s2.keep a o hw (s1.keep a o hw h), fun a h => ?_, fun j hj => ?_⟩ r7 ?_ ?_
      · rw [upd_ne (fun e => by subst e; exact h dst), s2.same a (s1.dom a h), s1.same a h]
      · by_cases m : j ∈ is
        · rw [restE_in m (by have := r6.len; rw [wipe_length] at this; rw [this, r1.len])]; exact s1.kp j hj
        · rw [restE_out m, s2.kp j hj, wipeE_out m]; exact s1.kp j hj
      · rw [rg_sh hc (H' := H1) (wf' := wf)]
        exact .lst hroot (ra.mono (rg_shm hc exn))
      · intro _ hf
        refine .lst (show rs (upd Hs2 Dp (.lst accV)) H Dp = _ by rw [rs_none dst, upd_same]) (ra.sc_any hf _ _)
  · rcases bnd_ex q with q | ⟨ds, env1, q1, q⟩
    · have h := si R Hs env σ H F wf r
      have h := h fun J H1 => ∀ D, H1 D = none → ∃ W : Nat → Nat → Hp → Prop, (∃ m, W 0 m (upd H1 D (.lst []))) ∧ ∀ i m H, W i m H → (J.stop i H ∧ Q (.ref D) H) ∨ (J.go i H ∧ ∃ Nx : Hp → Prop, (∀ H', Nx H' → ∃ m', m' < m ∧ W (i + 1) m' H') ∧ ∀ x H', J.yld i H x H' → g x (L2.wipe σ is) H' fun σ2 H2 => L2.wipe σ2 is = L2.wipe σ is ∧ tt σ2 H2 fun b H3 => if b = true then te σ2 H3 fun y H4 => ∃ acc, H4 D = some (.lst acc) ∧ acc.length < sizeLine ∧ Nx (upd H4 D (.lst (acc ++ [y]))) else Nx H3)
      rw [q] at h
      exact h k
    · split at q <;> cases q
end
end MV
namespace MV
open PySem PySem.Spec PyProof.Rows L2
section
variable {X : Cx} {cf : Cf} {W : WX} {c : Cls} {n n1 n2 : Bool}
structure STs (X : Cx) (cf : Cf) (W : WX) (es : List Expr) (t : TT) (f : M Bool) : Prop where
  p : PTs X es t
  s : SdT cf W t f
theorem sts_nil : STs X cf W [] tYes tTrue := ⟨pts_nil, sdt_true⟩
theorem sts_one {e : Expr} {t : TT} {f : M Bool} (h : ST X cf W e t f) : STs X cf W [e] t f := ⟨pts_one h.p, h.s⟩
theorem se_lc {elt tg iter : Expr} {ifs : List Expr} {scope : Scope} {own : List (Str × Nat)} {pos : Pos} {wi : TI} {g : TG} {tt : TT} {te : TE} {fi : M (List D)} {ftg : D → M Unit} {ft : M Bool} {fe : M D} (hsh : c.sh = true) (hk : ∀ i ∈ own.map (·.2), cf.kd i = .S) (hc : X.calm = true) (hN : X.N.Nodup) (hi : SIB X cf W tg iter wi fi) (ok : BlkOk X.N X.env.scope scope own)
    (hg : ∀ (s : Shared) (H : Hp) (C : Addr) (cl : List (Str × Addr)) (fp : List Addr), SGt (X.blk s H scope (compEnvC scope cl C X.env) fp) cf (own.map (·.2)) tg g ftg) (ht : ∀ (s : Shared) (H : Hp) (C : Addr) (cl : List (Str × Addr)) (fp : List Addr), STs (X.blk s H scope (compEnvC scope cl C X.env) fp) cf W0 ifs tt ft)
    (he : ∀ (s : Shared) (H : Hp) (C : Addr) (cl : List (Str × Addr)) (fp : List Addr), SE (X.blk s H scope (compEnvC scope cl C X.env) fp) cf W0 c n1 elt te fe) (hs : ∀ x, foldedSetIterable iter X.env x = pure x := by intro _; rfl) :
    SE X cf W c true (.ListComp elt [⟨tg, iter, ifs, 0⟩] scope pos) (tLc wi g tt te (own.map (·.2))) (eLc (own.map (·.2)) fi ftg ft fe) :=
  ⟨pe_lc hc hN hi.p ok (fun s H C cl fp => (hg s H C cl fp).p) (fun s H C cl fp => (ht s H C cl fp).p) (fun s H C cl fp => (he s H C cl fp).p) hs,
   sd_lc hsh hk hi.s (hg X.s_0 X.H_0 0 [] []).s (ht X.s_0 X.H_0 0 [] []).s (he X.s_0 X.H_0 0 [] []).s⟩
theorem sg_lc {i : Nat} {y : Str} {py : Pos} {elt tg iter : Expr} {ifs : List Expr} {scope : Scope} {own : List (Str × Nat)} {pos spos : Pos} {wi : TI} {g : TG} {tt : TT} {te : TE} {fi : M (List D)} {ftg : D → M Unit} {ft : M Bool} {fe : M D} (hsh : c.sh = true) (hk : ∀ i ∈ own.map (·.2), cf.kd i = .S) (hc : X.calm = true) (hN : X.N.Nodup) (hy : X.N[i]? = some y) (hyl : X.env.scope.names.lookup y = some .local)
    (hsw : swapsWith (.ListComp elt [⟨tg, iter, ifs, 0⟩] scope pos) (some (.Name y py)) spos.line X.env = pure true) (hi : SIB X cf W tg iter wi fi) (ok : BlkOk X.N X.env.scope scope own)
    (hg : ∀ (s : Shared) (H : Hp) (C : Addr) (cl : List (Str × Addr)) (fp : List Addr), SGt (X.blk s H scope (compEnvC scope cl C X.env) fp) cf (own.map (·.2)) tg g ftg) (ht : ∀ (s : Shared) (H : Hp) (C : Addr) (cl : List (Str × Addr)) (fp : List Addr), STs (X.blk s H scope (compEnvC scope cl C X.env) fp) cf W0 ifs tt ft)
    (he : ∀ (s : Shared) (H : Hp) (C : Addr) (cl : List (Str × Addr)) (fp : List Addr), SE (X.blk s H scope (compEnvC scope cl C X.env) fp) cf W0 c n1 elt te fe) (hs : ∀ x, foldedSetIterable iter X.env x = pure x := by intro _; rfl) :
    SG X cf W c true i (.Assign [.Name y py] (.ListComp elt [⟨tg, iter, ifs, 0⟩] scope pos) spos) (eLc (own.map (·.2)) fi ftg ft fe) :=
  ⟨_, ps_setLc hc hN hy hyl hsw hi.p ok (fun s H C cl fp => (hg s H C cl fp).p) (fun s H C cl fp => (ht s H C cl fp).p) (fun s H C cl fp => (he s H C cl fp).p) hs,
   sd_lc hsh hk hi.s (hg X.s_0 X.H_0 0 [] []).s (ht X.s_0 X.H_0 0 [] []).s (he X.s_0 X.H_0 0 [] []).s⟩
theorem SG.flat {i : Nat} {st : Stmt} {f : M D} (h : SG X cf W c true i st f) : SG X cf W .V true i st (eF f) := by
  obtain ⟨t, p, s⟩ := h
  refine ⟨t, p, fun R Hs env σ H F wf r Q => ?_⟩
  have h := s R Hs env σ H F wf r Q
  cases q : f env with
  | ok d env' =>
    rw [q] at h
    cases hf : d.flat with
    | true =>
      have e1 : eF f env = .ok d env' := by simp [eF, bnd, lift, q, hf]
      rw [e1]
      exact fun k => h fun v Hs' H' st r' p nr => k v Hs' H' st r' (nr rfl hf) nr
    | false =>
      have e1 : eF f env = .stuck := by simp [eF, bnd, lift, q, hf]
      rw [e1]
      trivial
  | ex x env' =>
    rw [q] at h
    have e1 : eF f env = .ex x env' := by simp [eF, bnd, q]
    rw [e1]
    exact h
  | stuck =>
    have e1 : eF f env = .stuck := by simp [eF, bnd, q]
    rw [e1]
    trivial
def lstAt (i : Nat) (e : PEnv) : Option (List D) := match e[i]? with
  | some (some (.lst ds)) => some ds
  | _ => none
theorem lstAt_some {i : Nat} {e : PEnv} {ds : List D} (h : lstAt i e = some ds) : e[i]? = some (some (.lst ds)) := by
  unfold lstAt at h
  split at h
  · rename_i q; cases h; exact q
  · cases h
def sApp (i : Nat) (f : M D) : M Fl := fun e => match lstAt i e with
  | none => .stuck
  | some _ => bnd f (fun d => fun e => match lstAt i e with
    | some ds => if ds.length < LIM then .ok .nx (e.set i (some (.lst (ds ++ [d])))) else .stuck
    | none => .stuck) e
def sPut (i : Nat) (fv fi : M D) : M Fl := bnd fv fun d => fun e => match lstAt i e with
  | none => .stuck
  | some _ => bnd fi (fun k => fun e => match lstAt i e, k with
    | some ds, .int z => match ixN ds.length z with
      | some j => .ok .nx (e.set i (some (.lst (ds.set j d))))
      | none => .stuck
    | _, _ => .stuck) e
def sPutW (i : Nat) (fv fi : M D) : M Fl := bnd fv fun d => fun e => match lstAt i e with
  | none => .stuck
  | some _ => bnd fi (fun k => fun e => match lstAt i e, k with
    | some ds, .int z => match ixN ds.length z with
      | some j => if d.sc then .ok .nx (e.set i (some (.lst (ds.set j d)))) else .stuck
      | none => .stuck
    | _, _ => .stuck) e
theorem own_list {R : Rs} {Hs : Hp} {env : PEnv} {σ : L2.St} {H : Hp} {F : Nat → List Addr} {wf : List Addr} {i : Nat} {ds : List D} (r : Rel cf R Hs env σ H F wf) (hk : cf.kd i = .M) (h : env[i]? = some (some (.lst ds))) : ∃ p xs, σ[i]? = some (some (.ref p)) ∧ F i = [p] ∧ H p = some (.lst xs) ∧ RpL cf.K true (rs Hs R.H0) xs ds := by
  obtain ⟨v, h1, h2⟩ := r.slot i _ h
  rw [hk] at h2
  obtain ⟨h2, h3, h4⟩ := h2
  generalize hF : F i = L at h2 h3 h4
  cases h2 with
  | leaf _ => cases h3 rfl
  | lst h5 h6 =>
    rename_i F' _
    have e : F' = [] := by
      rw [List.length_cons] at h4
      exact List.length_eq_zero_iff.mp (by omega)
    subst e
    exact ⟨_, _, h1, rfl, h5, h6.leafs rfl⟩
theorem own_listW {R : Rs} {Hs : Hp} {env : PEnv} {σ : L2.St} {H : Hp} {F : Nat → List Addr} {wf : List Addr} {i : Nat} {d : D} (r : Rel cf R Hs env σ H F wf) (hk : cf.kd i = .W) (h : env[i]? = some (some d)) : ∃ p xs ds, d = .lst ds ∧ σ[i]? = some (some (.ref p)) ∧ F i = [p] ∧ H p = some (.lst xs) ∧ ds.all D.sc = true ∧ RpL cf.K true emp xs ds := by
  obtain ⟨v, h1, h2⟩ := r.slot i _ h
  rw [hk] at h2
  obtain ⟨p, xs, ds, e1, e2, e3, e4, e5, e6⟩ := h2
  subst e1
  exact ⟨p, xs, ds, e2, h1, e3, e4, e5, e6⟩
theorem OwnL.app {K : PySem.W.Frag} {Hn H : Hp} : ∀ {F : List Addr} {xs ys : List V} {ds es : List D}, OwnL K Hn H F xs ds → RpL K true Hn ys es → OwnL K Hn H F (xs ++ ys) (ds ++ es)
  | _, _, _, _, _, .nil, h => ownL_of h
  | _, _, _, _, _, .cons h r, h2 => OwnL.cons h (OwnL.app r h2)
theorem OwnL.off {K : PySem.W.Frag} {Hn H : Hp} {p : Addr} {o : HO} {F : List Addr} {xs : List V} {ds : List D} (h : OwnL K Hn H F xs ds) (hp : p ∉ F) : OwnL K Hn (upd H p o) F xs ds := h.keep (Ex.refl _) fun a m u e => by
  rw [upd_ne (fun z => hp (by rw [← z]; exact m))]; exact e
theorem OwnL.length {K : PySem.W.Frag} {Hn H : Hp} : ∀ {F : List Addr} {xs : List V} {ds : List D}, OwnL K Hn H F xs ds → xs.length = ds.length
  | _, _, _, .nil => rfl
  | _, _, _, .cons _ r => by rw [List.length_cons, List.length_cons, OwnL.length r]
theorem ss_app {i : Nat} {o e : Expr} {te : TE} {f : M D} {apos cpos pos : Pos} (hK : cf.K = X.K) (po : PE X o (tVar i)) (hk : cf.kd i = .M) (h : SE X cf W .N n e te f)
    (hbase : attributeBase o "append" X.env (eval o X.env) = eval o X.env := by rfl)
    (hfew : ((backTo cpos (starEach [e] X.env)).all (fun x => !x.1) && (backToKw cpos (keywordEach [] X.env)).all (fun x => x.1.isSome) && decide ([e].length + ([] : List Keyword).length + (if ([] : List Keyword).isEmpty then 0 else 1) < 30)) = true := by rfl)
    (hline : (apos.endLine == cpos.line) = true := by rfl) (hs : starEach [e] X.env = (false, eval e X.env) :: starEach [] X.env := by rfl) (hplain : (backTo cpos (starEach [] X.env)).any (·.1) = false := by rfl)
    (hsw : swapsWith (.Call (.Attribute o "append" apos) [e] [] cpos) none pos.line X.env = pure false := by rfl) :
    SS X cf W (.Expr (.Call (.Attribute o "append" apos) [e] [] cpos) pos) (sApp i f) := by
  refine ⟨_, ps_expr (pe_bm PySem.F.plainAttrs_list PySem.F.slot_list_append PySem.F.type_list_append mt_append po (pa_cons h.p pa_nil hs) hbase hfew hline hs hplain) hsw, fun R Hs env σ H F wf r D hp => ?_⟩
  unfold sApp at hp
  cases q0 : lstAt i env with
  | none => simp only [q0] at hp; exact hp.elim
  | some ds0 =>
    simp only [q0] at hp
    obtain ⟨p0, xs0, a1, a2, a3, a4⟩ := own_list r hk (lstAt_some q0)
    refine ⟨.ref p0, a1, .inl ⟨rfl, xs0, .inl (.inl a3)⟩, ?_⟩
    refine h.s.bind r hp fun d env1 v Hs1 H1 s1 r1 p1 _ hp => ?_
    cases q : lstAt i env1 with
    | none => simp only [q] at hp; exact hp.elim
    | some ds =>
      simp only [q] at hp
      split at hp
      · rename_i hl
        obtain ⟨p, xs, h1, h2, h3, h4⟩ := own_list r1 hk (lstAt_some q)
        have ep : p = p0 := by rw [h1] at a1; cases a1; rfl
        subst ep
        refine ⟨p, xs, v, rfl, rfl, h3, by rw [h4.length]; exact lim_lt hl, ?_⟩
        exact hp Hs1 σ _ F wf s1.ex (r1.mut (i := i) (p := p) (v := .ref p) (d0 := .lst ds) (by rw [h2]; exact List.mem_cons_self) (lstAt_some q) h1 (by
            rw [hk, h2]
            exact ⟨Own.lst upd_same (ownL_of (h4.append (.cons p1 .nil))), fun z => (by cases z), Nat.le_refl _⟩))
      · exact hp.elim
theorem ss_putW {i : Nat} {o ix e : Expr} {te ti : TE} {f fi : M D} {spos pos : Pos} (po : PE X o (tVar i)) (hk : cf.kd i = .W) (h : SE X cf W c n e te f) (hi : SE X cf W c n1 ix ti fi)
    (ha : ∀ v, assign (.Subscript o ix spos) X.env v = (do
      let ov ← holding [v] (eval o X.env)
      let iv ← holding [v, ov] (eval ix X.env)
      standAt spos
      holding [v, ov, iv] (setItem ov iv v)
      release [v, ov, iv] []) := by intro _; rfl)
    (hs : swapsWithSole [.Subscript o ix spos] e pos.line X.env = pure false := by rfl) (hw : swappedStores [.Subscript o ix spos] e X.env = pure none := by rfl)
    (h1 : (assignEach [.Subscript o ix spos] X.env).map (·.2) = [assign (.Subscript o ix spos) X.env] := by rfl) :
    SS X cf W (.Assign [.Subscript o ix spos] e pos) (sPutW i f fi) := by
  refine ⟨_, ps_asg h.p (pg_sub po hi.p set_list ha) hs hw h1, fun R Hs env σ H F wf r D hp => ?_⟩
  refine h.s.bind r hp fun d env1 v Hs1 H1 s1 r1 p1 _ hp => ?_
  cases q0 : lstAt i env1 with
  | none => simp only [q0] at hp; exact hp.elim
  | some ds0 =>
    simp only [q0] at hp
    obtain ⟨p0, xs0, dz, _, a1, a2, a3, a4, a5⟩ := own_listW r1 hk (lstAt_some q0)
    refine ⟨.ref p0, a1, ?_⟩
    refine hi.s.bind r1 (Post.mono s1.ex hp) fun k env2 vk Hs2 H2 s2 r2 p2 _ hp => ?_
    cases q : lstAt i env2 with
    | none => simp only [q] at hp; exact hp.elim
    | some ds =>
      simp only [q] at hp
      cases k with
      | int z =>
        simp only at hp
        cases qj : ixN ds.length z with
        | none => simp only [qj] at hp; exact hp.elim
        | some j =>
          simp only [qj] at hp
          split at hp
          · rename_i hsc
            obtain ⟨p, xs, ds', e1, h1, h2, h3, h4, h5⟩ := own_listW r2 hk (lstAt_some q)
            cases e1
            have ep : p = p0 := by rw [h1] at a1; cases a1; rfl
            subst ep
            refine ⟨p, xs, z, j, rfl, p2.int_inv, h3, by rw [h5.length]; exact qj, ?_⟩
            exact hp Hs2 σ _ F wf s2.ex (r2.mut (i := i) (p := p) (v := .ref p) (d0 := .lst ds) (by rw [h2]; exact List.mem_cons_self) (lstAt_some q) h1 (by
                rw [hk, h2]
                refine ⟨p, _, _, rfl, rfl, rfl, upd_same, ?_, h5.set j (p1.sc_any hsc _ _)⟩
                rw [List.all_eq_true]
                intro y hy
                rcases List.mem_or_eq_of_mem_set hy with hy | hy
                · exact List.all_eq_true.mp h4 y hy
                · rw [hy]; exact hsc))
          · exact hp.elim
      | _ => exact hp.elim
def eIxW (i : Nat) (f : M D) : M D := fun e => match lstAt i e with
  | none => .stuck
  | some _ => bnd f (fun k => fun e => match lstAt i e, k with
    | some ds, .int z => lift (atI ds z) e
    | _, _ => .stuck) e
theorem atI_mem {α : Type} {l : List α} {i : Int} {x : α} (h : atI l i = some x) : x ∈ l := by
  obtain ⟨j, _, h2, _⟩ := atI_get h
  exact List.mem_of_getElem? h2
theorem se_ixW {i : Nat} {o ix : Expr} {ti : TE} {f : M D} {pos : Pos} (hK : cf.K = X.K) (po : PE X o (tVar i)) (hk : cf.kd i = .W) (h : SE X cf W c n ix ti f) (hs : PlainIx ix) : SE X cf W .V true (.Subscript o ix pos) (tOp (rIx cf.K) (tVar i) ti) (eIxW i f) := by
  rw [hK]
  refine ⟨pe_ix ix_seq po h.p hs, Sd.mk (fun R Hs env σ H F wf r d env' q Q k => ?_) (fun R Hs env σ H F wf r x env' q Q k => ?_)⟩
  · unfold eIxW at q
    cases q0 : lstAt i env with
    | none => simp only [q0] at q; cases q
    | some ds0 =>
      simp only [q0] at q
      obtain ⟨p0, xs0, dz, _, a1, a2, a3, a4, a5⟩ := own_listW r hk (lstAt_some q0)
      refine ⟨.ref p0, a1, ?_⟩
      obtain ⟨kd, env1, q1, q2⟩ := bnd_ok q
      refine h.s.ok r q1 fun v Hs1 H1 s1 r1 p1 _ => ?_
      cases q3 : lstAt i env1 with
      | none => simp only [q3] at q2; cases q2
      | some ds =>
        simp only [q3] at q2
        cases kd with
        | int z =>
          obtain ⟨qg, rfl⟩ := lift_ok q2
          obtain ⟨p, xs, ds', e1, h1, h2, h3, h4, h5⟩ := own_listW r1 hk (lstAt_some q3)
          cases e1
          have ep : p = p0 := by rw [h1] at a1; cases a1; rfl
          subst ep
          obtain ⟨w, hw, hr⟩ := atI_rp h5 qg
          have hsc : d.sc = true := List.all_eq_true.mp h4 d (atI_mem qg)
          exact .inl ⟨p, xs, z, w, rfl, p1.int_inv, .inl (.inl h3), hw, k w Hs1 H1 s1 r1 (hr.sc_any hsc _ _) fun _ _ => hr.sc_any hsc _ _⟩
        | _ => cases q2
  · unfold eIxW at q
    cases q0 : lstAt i env with
    | none => simp only [q0] at q; cases q
    | some ds0 =>
      simp only [q0] at q
      obtain ⟨p0, xs0, dz, _, a1, a2, a3, a4, a5⟩ := own_listW r hk (lstAt_some q0)
      refine ⟨.ref p0, a1, ?_⟩
      rcases bnd_ex q with q | ⟨kd, env1, q1, q2⟩
      · exact h.s.exn r q k
      · cases q3 : lstAt i env1 with
        | none => simp only [q3] at q2; cases q2
        | some ds =>
          simp only [q3] at q2
          cases kd with
          | int z => exact (lift_ex q2).elim
          | _ => cases q2
end
end MV
namespace MV
open PySem PySem.Spec PyProof.Rows L2
def spP (K : PySem.W.Frag) (cv : Str → Value) (m : Nat) (F : List D → FR) : Sp := fun vs H Q E => vs.length = m ∧ ∃ ds, RpL K true H vs ds ∧ match F ds with
  | .ok d _ => ∀ v H', Ex H H' → Rp K true (nw H H') v d → Q v H'
  | .ex x _ => ∀ H', Ex H H' → E (cv x) none H'
  | .stuck => False
def spW (K : PySem.W.Frag) (cv : Str → Value) (m : Nat) (F : List D → FR) : Sp := fun vs H Q E => vs.length = m ∧ ∃ p xs ds0 vs' ds, vs = .ref p :: vs' ∧ H p = some (.lst xs) ∧ ds0.all D.sc = true ∧ RpL K true emp xs ds0 ∧ RpL K true (rm H [p]) vs' ds ∧ match F (.lst ds0 :: ds) with
  | .ok d io => ∀ v H' xs' ds', io = .lst ds' → ds'.all D.sc = true → RpL K true emp xs' ds' → Ex (upd H p (.lst xs')) H' → Rp K true (nw H H') v d → Q v H'
  | .ex x io => ∀ H' xs' ds', io = .lst ds' → ds'.all D.sc = true → RpL K true emp xs' ds' → Ex (upd H p (.lst xs')) H' → E (cv x) none H'
  | .stuck => False
def spQ (K : PySem.W.Frag) (cv : Str → Value) (m : Nat) (F : List D → FR) : Sp := fun vs H Q E => vs.length = m ∧ ∃ v0 vs' d0 ds, vs = v0 :: vs' ∧ Rp K false H v0 d0 ∧ RpL K true H vs' ds ∧ match F (d0 :: ds) with
  | .ok d _ => ∀ v H', Ex H H' → Rp K true (nw H H') v d → Q v H'
  | .ex x _ => ∀ H', Ex H H' → E (cv x) none H'
  | .stuck => False
def frD (r : FR) : M D := fun e => match r with
  | .ok d _ => .ok d e
  | .ex x _ => .ex x e
  | .stuck => .stuck
def eCall (F : List D → FR) (a : M (List D)) : M D := bnd a fun ds => frD (F ds)
def frW (i : Nat) (r : FR) : M D := fun e => match r with
  | .ok d io => if wok io then .ok d (e.set i (some io)) else .stuck
  | .ex x io => if wok io then .ex x (e.set i (some io)) else .stuck
  | .stuck => .stuck
def eCallW (F : List D → FR) (i : Nat) (a : M (List D)) : M D := fun e => match lstAt i e with
  | none => .stuck
  | some _ => bnd a (fun ds => fun e => match lstAt i e with
    | some ds0 => frW i (F (.lst ds0 :: ds)) e
    | none => .stuck) e
section
variable {X : Cx} {cf : Cf} {W : WX} {c : Cls} {n n1 n2 : Bool}
theorem nw_rs {Hs H H1 H' : Hp} (d : ∀ a, H a ≠ none → H1 a ≠ none) : Ex (nw H1 H') (rs (grow Hs H1 H') H) := fun a o h => by
  cases q : H1 a with
  | some u => rw [nw_some q] at h; cases h
  | none =>
    rw [nw_none q] at h
    have : H a = none := by
      cases z : H a with
      | none => rfl
      | some u => exact absurd q (d a (by rw [z]; exact fun y => by cases y))
    rw [rs_none this, grow_none q]; exact h
theorem sd_call {F : List D → FR} {m : Nat} {ta : TA} {fa : M (List D)} (h : SdA cf W .B ta fa) (hm : ∀ ds env env', fa env = .ok ds env' → ds.length = m) : Sd cf W .V true (tCallS (spP cf.K cf.cv m F) (WE W) ta) (eCall F fa) := by
  refine Sd.mk (fun R Hs env σ H F0 wf r d env' q Q k => ?_) (fun R Hs env σ H F0 wf r x env' q Q k => ?_)
  · obtain ⟨ds, env1, q1, q2⟩ := bnd_ok q
    refine h.ok r q1 fun vs Hs1 H1 s1 r1 p1 => ?_
    refine ⟨by rw [p1.length]; exact hm _ _ _ q1, ds, p1.mono (rm_sub _ _), ?_⟩
    cases qf : F ds with
    | ok d' io =>
      rw [qf] at q2
      cases q2
      intro v H' x pv
      have pv' : Rp cf.K true (rs (grow Hs1 H1 H') H) v d := pv.mono (nw_rs s1.dom)
      exact k v (grow Hs1 H1 H') H' (s1.trans (Stp.grow r1.exs x)) (r1.grow x) pv' fun _ _ => pv'
    | ex x io => rw [qf] at q2; cases q2
    | stuck => rw [qf] at q2; cases q2
  · rcases bnd_ex q with q | ⟨ds, env1, q1, q2⟩
    · exact h.exn r q k
    · refine h.ok r q1 fun vs Hs1 H1 s1 r1 p1 => ?_
      refine ⟨by rw [p1.length]; exact hm _ _ _ q1, ds, p1.mono (rm_sub _ _), ?_⟩
      cases qf : F ds with
      | ok d' io => rw [qf] at q2; cases q2
      | ex x' io =>
        rw [qf] at q2
        cases q2
        intro H' x
        exact k (grow Hs1 H1 H') H' (s1.trans (Stp.grow r1.exs x)) (r1.grow x)
      | stuck => rw [qf] at q2; cases q2
theorem sd_callW {F : List D → FR} {m i : Nat} {ta : TA} {fa : M (List D)} (hk : cf.kd i = .W) (h : SdA cf W .B ta fa) (hm : ∀ ds env env', fa env = .ok ds env' → ds.length + 1 = m) : Sd cf W .V true (tCallS (spW cf.K cf.cv m F) (WE W) (tCons (tVar i) ta)) (eCallW F i fa) := by
  have args : ∀ {R : Rs} {Hs1 H1 : Hp} {env1 : PEnv} {σ : L2.St} {F0 : Nat → List Addr} {wf : List Addr} {vs : List V} {ds : List D} {p : Addr}, Rel cf R Hs1 env1 σ H1 F0 wf → F0 i = [p] → RpL cf.K true (rm H1 wf) vs ds → RpL cf.K true (rm H1 [p]) vs ds := fun {R Hs1 H1 env1 σ F0 wf vs ds p} r1 e pa => pa.mono fun a o ha => by
    unfold rm at ha ⊢
    split at ha
    · cases ha
    · rename_i hw
      rw [if_neg (fun m => hw (r1.volw i hk a (by rw [e]; exact m)))]
      exact ha
  have after : ∀ {R : Rs} {Hs1 H1 H' : Hp} {env1 : PEnv} {σ : L2.St} {F0 : Nat → List Addr} {wf : List Addr} {p : Addr} {xs' : List V} {ds0 ds' : List D}, Rel cf R Hs1 env1 σ H1 F0 wf → lstAt i env1 = some ds0 → σ[i]? = some (some (.ref p)) → F0 i = [p] → ds'.all D.sc = true → RpL cf.K true emp xs' ds' → Ex (upd H1 p (.lst xs')) H' →
      Stp cf wf env1 Hs1 H1 (env1.set i (some (.lst ds'))) (grow Hs1 H1 H') H' ∧ Rel cf R (grow Hs1 H1 H') (env1.set i (some (.lst ds'))) σ H' F0 wf := by
    intro R Hs1 H1 H' env1 σ F0 wf p xs' ds0 ds' r1 q0 hv hF hsc hr x
    have hp : p ∈ F0 i := by rw [hF]; exact List.mem_singleton.mpr rfl
    have r2 := r1.mut (i := i) (p := p) (o' := .lst xs') (v := .ref p) (d' := .lst ds') hp (lstAt_some q0) hv (by rw [hk, hF]; exact ⟨p, xs', ds', rfl, rfl, rfl, upd_same, hsc, hr⟩)
    have r3 := r2.grow x
    have eg : grow Hs1 (upd H1 p (.lst xs')) H' = grow Hs1 H1 H' := by
      funext a
      by_cases e : a = p
      · subst e
        have h1 : H1 a ≠ none := r1.fdom i a hp
        cases z : H1 a with
        | none => exact absurd z h1
        | some o => rw [grow_some z, grow_some (upd_same (H := H1) (a := a) (o := .lst xs'))]
      · unfold grow
        rw [upd_ne e]
    rw [eg] at r3
    refine ⟨⟨fun a h => ?_, ?_, fun a o hw h => ?_, fun a h => ?_, fun j hj => ?_⟩, r3⟩
    · by_cases e : a = p
      · subst e; exact x.dom (by rw [upd_same]; exact fun z => by cases z)
      · exact x.dom (by rw [upd_ne e]; exact h)
    · intro a o h
      rw [grow_some (r1.exs a o h)]; exact h
    · have : a ≠ p := fun e => by subst e; exact hw (r1.volw i hk _ hp)
      exact x a o (by rw [upd_ne this]; exact h)
    · cases z : H1 a with
      | none => exact absurd z h
      | some o => rw [grow_some z]
    · rw [List.getElem?_set_ne (fun e => by subst e; exact hj hk)]
  refine Sd.mk (fun R Hs env σ H F0 wf r d env' q Q k => ?_) (fun R Hs env σ H F0 wf r x env' q Q k => ?_)
  · unfold eCallW at q
    cases q0 : lstAt i env with
    | none => simp only [q0] at q; cases q
    | some ds00 =>
      simp only [q0] at q
      obtain ⟨p0, xs0, dz, _, a1, a2, a3, a4, a5⟩ := own_listW r hk (lstAt_some q0)
      refine ⟨.ref p0, a1, ?_⟩
      obtain ⟨ds, env1, q1, q2⟩ := bnd_ok q
      refine h.ok r q1 fun vs Hs1 H1 s1 r1 p1 => ?_
      cases q3 : lstAt i env1 with
      | none => simp only [q3] at q2; cases q2
      | some ds0 =>
        simp only [q3] at q2
        obtain ⟨p, xs, ds1, e1, h1, h2, h3, h4, h5⟩ := own_listW r1 hk (lstAt_some q3)
        cases e1
        have ep : p = p0 := by rw [h1] at a1; cases a1; rfl
        subst ep
        refine ⟨by rw [List.length_cons, p1.length]; exact hm _ _ _ q1, p, xs, ds0, vs, ds, rfl, h3, h4, h5, args r1 h2 p1, ?_⟩
        cases qf : F (.lst ds0 :: ds) with
        | ok d' io =>
          rw [qf] at q2
          unfold frW at q2
          simp only at q2
          split at q2
          · cases q2
            intro v H' xs' ds' eio hsc hr x pv
            subst eio
            obtain ⟨s2, r2⟩ := after r1 q3 h1 h2 hsc hr x
            have pv' : Rp cf.K true (rs (grow Hs1 H1 H') H) v d := pv.mono (nw_rs s1.dom)
            exact k v (grow Hs1 H1 H') H' (s1.trans s2) r2 pv' fun _ _ => pv'
          · cases q2
        | ex x io =>
          rw [qf] at q2
          unfold frW at q2
          simp only at q2
          split at q2 <;> cases q2
        | stuck => rw [qf] at q2; cases q2
  · unfold eCallW at q
    cases q0 : lstAt i env with
    | none => simp only [q0] at q; cases q
    | some ds00 =>
      simp only [q0] at q
      obtain ⟨p0, xs0, dz, _, a1, a2, a3, a4, a5⟩ := own_listW r hk (lstAt_some q0)
      refine ⟨.ref p0, a1, ?_⟩
      rcases bnd_ex q with q | ⟨ds, env1, q1, q2⟩
      · exact h.exn r q k
      · refine h.ok r q1 fun vs Hs1 H1 s1 r1 p1 => ?_
        cases q3 : lstAt i env1 with
        | none => simp only [q3] at q2; cases q2
        | some ds0 =>
          simp only [q3] at q2
          obtain ⟨p, xs, ds1, e1, h1, h2, h3, h4, h5⟩ := own_listW r1 hk (lstAt_some q3)
          cases e1
          have ep : p = p0 := by rw [h1] at a1; cases a1; rfl
          subst ep
          refine ⟨by rw [List.length_cons, p1.length]; exact hm _ _ _ q1, p, xs, ds0, vs, ds, rfl, h3, h4, h5, args r1 h2 p1, ?_⟩
          cases qf : F (.lst ds0 :: ds) with
          | ok d' io =>
            rw [qf] at q2
            unfold frW at q2
            simp only at q2
            split at q2 <;> cases q2
          | ex x' io =>
            rw [qf] at q2
            unfold frW at q2
            simp only at q2
            split at q2
            · cases q2
              intro H' xs' ds' eio hsc hr x
              subst eio
              obtain ⟨s2, r2⟩ := after r1 q3 h1 h2 hsc hr x
              exact k (grow Hs1 H1 H') H' (s1.trans s2) r2
            · cases q2
          | stuck => rw [qf] at q2; cases q2
theorem aLen_nil {ds : List D} {env env' : PEnv} (q : aNil env = .ok ds env') : ds.length = 0 := by cases q; rfl
theorem aLen_cons {fa : M D} {fr : M (List D)} {m : Nat} (h : ∀ ds env env', fr env = .ok ds env' → ds.length = m) {ds : List D} {env env' : PEnv} (q : aCons fa fr env = .ok ds env') : ds.length = m + 1 := by
  obtain ⟨d1, env1, q1, q⟩ := bnd_ok q
  obtain ⟨d2, env2, q2, q⟩ := bnd_ok q
  cases q
  rw [List.length_cons, h _ _ _ q2]
theorem se_call {F : List D → FR} {m k : Nat} {f : Addr} {fd : FuncData} {ps : List Str} {x : Str} {e : Expr} {es : List Expr} {ta : TA} {fa : M (List D)} {p pos : Pos} (hK : cf.K = X.K) (tk : L2N.Takes X W) (G : FnOk X.prog X.w X.K X.mg X.base (L2N.CX X.prog X.w) k f fd ps (spP X.K cf.cv m F)) (hr : Room k X.A) (hg : Gl X x) (hm : X.mg x = some (.ref f)) (hkp : PySem.W.keepIn X.K (.ref f) = true) (hb : Binds X.K fd ps []) (ha : SA X cf W .B (e :: es) ta fa) (hl : ∀ ds env env', fa env = .ok ds env' → ds.length = m)
    (hdb : (x == ("__debug__" : Str)) = false := by decide) (he : starEach (e :: es) X.env = (false, eval e X.env) :: starEach es X.env := by rfl) (hpl : (backTo pos (starEach es X.env)).any (·.1) = false := by rfl) :
    SE X cf W .V true (.Call (.Name x p) (e :: es) [] pos) (tCallS (spP cf.K cf.cv m F) (WE W) ta) (eCall F fa) := by
  refine ⟨?_, sd_call ha.s hl⟩
  rw [hK]
  exact pe_callS G hr hg hm hkp hb (fun σ => L2N.passAt tk σ) ha.p hdb he hpl
theorem se_callW {F : List D → FR} {m k i : Nat} {f : Addr} {fd : FuncData} {ps : List Str} {x : Str} {e : Expr} {es : List Expr} {ta : TA} {fa : M (List D)} {p pos : Pos} (hK : cf.K = X.K) (tk : L2N.Takes X W) (G : FnOk X.prog X.w X.K X.mg X.base (L2N.CX X.prog X.w) k f fd ps (spW X.K cf.cv m F)) (hr : Room k X.A) (hg : Gl X x) (hm : X.mg x = some (.ref f)) (hkp : PySem.W.keepIn X.K (.ref f) = true) (hb : Binds X.K fd ps []) (hk : cf.kd i = .W) (pe : PE X e (tVar i)) (ha : SA X cf W .B es ta fa) (hl : ∀ ds env env', fa env = .ok ds env' → ds.length + 1 = m)
    (hdb : (x == ("__debug__" : Str)) = false := by decide) (he : starEach (e :: es) X.env = (false, eval e X.env) :: starEach es X.env := by rfl) (hpl : (backTo pos (starEach es X.env)).any (·.1) = false := by rfl) :
    SE X cf W .V true (.Call (.Name x p) (e :: es) [] pos) (tCallS (spW cf.K cf.cv m F) (WE W) (tCons (tVar i) ta)) (eCallW F i fa) := by
  refine ⟨?_, sd_callW hk ha.s hl⟩
  rw [hK]
  exact pe_callS G hr hg hm hkp hb (fun σ => L2N.passAt tk σ) (pa_cons pe ha.p he) hdb he hpl
end
section
variable {P : Program} {w : World} {K : PySem.W.Frag} {mg : Str → Option Value} {base : Heap}
theorem start_get {N : List Str} {vs : List V} {i : Nat} {v : V} (h : vs[i]? = some v) : (L2.start N vs)[i]? = some (some v) := by
  unfold L2.start
  have hl : i < vs.length := (List.getElem?_eq_some_iff.mp h).1
  rw [List.getElem?_append_left (by rw [List.length_map]; exact hl), List.getElem?_map, h]
  rfl
theorem envOf_get {n : Nat} {ds : List D} {i : Nat} {d : D} (h : (envOf n ds)[i]? = some (some d)) : ds[i]? = some d := by
  unfold envOf at h
  by_cases hl : i < ds.length
  · rw [List.getElem?_append_left (by rw [List.length_map]; exact hl), List.getElem?_map] at h
    cases q : ds[i]? with
    | none => rw [q] at h; cases h
    | some d' => rw [q] at h; cases h; rfl
  · rw [List.getElem?_append_right (by rw [List.length_map]; omega), List.getElem?_replicate] at h
    split at h <;> cases h
theorem env_len {N : List Str} {ds : List D} {vs : List V} (h : vs.length = ds.length) : (envOf N.length ds).length = (L2.start N vs).length := by
  unfold envOf L2.start
  rw [List.length_append, List.length_append, List.length_map, List.length_map, List.length_replicate, List.length_replicate, h]
theorem okN {x qual : Str} {st : Stmt} {f : Addr} {fd : FuncData} {N ps : List Str} {k : Nat} {sp : Sp} (F : Fun K x qual st f fd) (S : FnScope N ps (defScope st)) (len : ∀ vs H Q E, sp vs H Q E → vs.length = ps.length)
    (hb : ∀ (cdv : Value) (A : Around) (outer : List Env) (s : Shared) (H : Hp) (vs : List V) (Q : VK) (E : XK), Room k (A.deeper (envOfC qual (defScope st) s.heap.objs.size f cdv)) → sp vs H Q E →
      ∃ t, PSs (cxOf (L2N.CX P w) P w K mg base N qual (defScope st) f cdv A outer s H E) (defBody st) t ∧ t { nx := fun _ H' => Q .non H', rt := Q } (L2.start N vs) H) : FnOk P w K mg base (L2N.CX P w) (k + 1) f fd ps sp := by
  obtain ⟨oc, od, kV, doc, pm, an, cdv, ct, osl, e, lk, hcd⟩ := F.ex
  subst e
  exact fn_of lk hcd S len fun A outer s H vs Q E hr h => hb cdv A outer s H vs Q E hr h
theorem takes0N {X : Cx} : L2N.Takes X (fun _ _ _ _ => False) := fun u s' x => by
  obtain ⟨a, B, sI, pins, σ, H, cls, d, _, _, _, _, _, _, _, _, z⟩ := x
  exact z.elim
theorem fn_P {x qual : Str} {st : Stmt} {f : Addr} {fd : FuncData} (N ps : List Str) (mN mP : Nat) {k : Nat} (cf : Cf) (g : M Fl) (hN : N.length = mN) (hP : ps.length = mP) (F : Fun K x qual st f fd) (S : FnScope N ps (defScope st)) (hK : cf.K = K) (hk : ∀ i, i < ps.length → cf.kd i = .S)
    (hbody : ∀ (cdv : Value) (A : Around) (outer : List Env) (s : Shared) (H : Hp) (E : XK), Room k (A.deeper (envOfC qual (defScope st) s.heap.objs.size f cdv)) → L2N.Takes (cxOf (L2N.CX P w) P w K mg base N qual (defScope st) f cdv A outer s H E) (fun cls d _ H => E cls d H) →
      PassesOwn (model P w) (A.deeper (envOfC qual (defScope st) s.heap.objs.size f cdv)) (envOfC qual (defScope st) s.heap.objs.size f cdv) (cxOf (L2N.CX P w) P w K mg base N qual (defScope st) f cdv A outer s H E).xe →
      SSs (cxOf (L2N.CX P w) P w K mg base N qual (defScope st) f cdv A outer s H E) cf (fun cls d _ H => E cls d H) (defBody st) g) :
    FnOk P w K mg base (L2N.CX P w) (k + 1) f fd ps (spP K cf.cv mP (runF mN g)) := by
  subst hN hP
  refine okN F S (fun vs H Q E h => h.1) (fun cdv A outer s H vs Q E hr h => ?_)
  obtain ⟨hl, ds, hd, h⟩ := h
  obtain ⟨t, p, sd⟩ := hbody cdv A outer s H E hr (L2N.takes_of rfl rfl rfl rfl) (passes_of rfl)
  refine ⟨t, p, ?_⟩
  have r : Rel cf ⟨H, none⟩ H (envOf N.length ds) (L2.start N vs) H (fun _ => []) [] :=
    { len := env_len hd.length
      exs := Ex.refl _
      ex0 := fun a o h _ => h
      dom0 := fun a h => h
      slot := fun i d q => by
        have q := envOf_get q
        obtain ⟨v, h1, h2⟩ := hd.get q
        refine ⟨v, start_get h1, ?_⟩
        rw [hk i (by rw [← hl, hd.length]; exact (List.getElem?_eq_some_iff.mp q).1), hK]
        exact h2
      nod := fun _ => List.nodup_nil
      dis := fun _ _ _ _ m => by cases m
      fdom := fun _ _ m => by cases m
      uns := fun _ _ m => by cases m
      new := fun _ _ m => by cases m
      volw := fun _ _ _ m => by cases m
      volb := fun _ _ _ m => by cases m
      wdom := fun _ m => by cases m
      ior := fun p h => by cases h }
  refine sd _ _ _ _ _ _ _ r _ ?_
  unfold runF at h
  have exH : ∀ {Hs' H' : Hp} {env' : PEnv} {σ' : L2.St} {F' : Nat → List Addr} {wf' : List Addr}, Rel cf ⟨H, none⟩ Hs' env' σ' H' F' wf' → Ex H H' := fun r' a o ha => r'.exs a o (r'.ex0 a o ha (fun z => by cases z))
  cases q : g (envOf N.length ds) with
  | stuck => rw [q] at h; exact h.elim
  | ex c e =>
    rw [q] at h
    exact fun Hs' σ' H' F' wf' _ r' => h H' (exH r')
  | ok fl e =>
    rw [q] at h
    cases fl with
    | nx => exact fun Hs' σ' H' F' wf' _ r' => h .non H' (exH r') .non
    | rt d => exact fun v Hs' σ' H' F' wf' _ r' pv => h v H' (exH r') (by
        rw [← hK]
        exact pv.mono fun a o ha => by
          have ha : rs (rm H' wf') H a = some o := ha
          cases z : H a with
          | none => rw [rs_none z] at ha; rw [nw_none z]; exact rm_sub _ _ a o ha
          | some u => rw [rs_some z] at ha; cases ha)
    | bk => exact h.elim
    | ct => exact h.elim
theorem ioOf_get {e : PEnv} {d : D} (h : e[0]? = some (some d)) : ioOf e = d := by
  cases e with
  | nil => cases h
  | cons a r =>
    have : a = some d := by simpa using h
    subst this
    rfl
theorem fn_W {x qual : Str} {st : Stmt} {f : Addr} {fd : FuncData} (N ps : List Str) (mN mP : Nat) {k : Nat} (cf : Cf) (g : M Fl) (hN : N.length = mN) (hP : ps.length = mP) (F : Fun K x qual st f fd) (S : FnScope N ps (defScope st)) (hK : cf.K = K) (h0 : cf.kd 0 = .W) (hk : ∀ i, 0 < i → i < ps.length → cf.kd i = .S)
    (hbody : ∀ (cdv : Value) (A : Around) (outer : List Env) (s : Shared) (H : Hp) (E : XK), Room k (A.deeper (envOfC qual (defScope st) s.heap.objs.size f cdv)) → L2N.Takes (cxOf (L2N.CX P w) P w K mg base N qual (defScope st) f cdv A outer s H E) (fun cls d _ H => E cls d H) →
      PassesOwn (model P w) (A.deeper (envOfC qual (defScope st) s.heap.objs.size f cdv)) (envOfC qual (defScope st) s.heap.objs.size f cdv) (cxOf (L2N.CX P w) P w K mg base N qual (defScope st) f cdv A outer s H E).xe →
      SSs (cxOf (L2N.CX P w) P w K mg base N qual (defScope st) f cdv A outer s H E) cf (fun cls d _ H => E cls d H) (defBody st) g) :
    FnOk P w K mg base (L2N.CX P w) (k + 1) f fd ps (spW K cf.cv mP (runF mN g)) := by
  subst hN hP
  refine okN F S (fun vs H Q E h => h.1) (fun cdv A outer s H vs Q E hr h => ?_)
  obtain ⟨hl, p, xs, ds0, vs', ds, rfl, hp, hsc, hr0, hd, h⟩ := h
  obtain ⟨t, pt, sd⟩ := hbody cdv A outer s H E hr (L2N.takes_of rfl rfl rfl rfl) (passes_of rfl)
  refine ⟨t, pt, ?_⟩
  have hpm : p ∈ [p] := List.mem_singleton.mpr rfl
  have r : Rel cf ⟨H, some p⟩ (rm H [p]) (envOf N.length (.lst ds0 :: ds)) (L2.start N (.ref p :: vs')) H (fun i => if i = 0 then [p] else []) [p] :=
    { len := env_len (by rw [List.length_cons, List.length_cons, hd.length])
      exs := rm_sub _ _
      ex0 := fun a o h n => by
        unfold rm
        rw [if_neg (fun m => n (by rw [List.mem_singleton.mp m]))]
        exact h
      dom0 := fun a h => h
      slot := fun i d q => by
        have q := envOf_get q
        cases i with
        | zero =>
          have q : D.lst ds0 = d := by simpa using q
          subst q
          refine ⟨.ref p, start_get rfl, ?_⟩
          rw [h0]
          exact ⟨p, xs, ds0, rfl, rfl, rfl, hp, hsc, by rw [hK]; exact hr0⟩
        | succ i =>
          have q : ds[i]? = some d := by simpa using q
          obtain ⟨v, h1, h2⟩ := hd.get q
          refine ⟨v, start_get (by simpa using h1), ?_⟩
          rw [hk (i + 1) (Nat.succ_pos i) (by rw [← hl, List.length_cons, hd.length]; exact Nat.succ_lt_succ (List.getElem?_eq_some_iff.mp q).1), hK]
          exact h2
      nod := fun i => by
        show (if i = 0 then [p] else []).Nodup
        split <;> simp
      dis := fun i j ne a m => by
        by_cases e : i = 0
        · rw [if_neg (fun z => ne (by rw [e, z]))]; exact fun z => by cases z
        · rw [if_neg e] at m; cases m
      fdom := fun i a m => by
        by_cases e : i = 0
        · rw [if_pos e] at m; rw [List.mem_singleton.mp m, hp]; exact fun z => by cases z
        · rw [if_neg e] at m; cases m
      uns := fun i a m => by
        by_cases e : i = 0
        · rw [if_pos e] at m; unfold rm; rw [if_pos m]
        · rw [if_neg e] at m; cases m
      new := fun i a m => by
        by_cases e : i = 0
        · rw [if_pos e] at m; exact .inl (by rw [List.mem_singleton.mp m])
        · rw [if_neg e] at m; cases m
      volw := fun i _ a m => by
        by_cases e : i = 0
        · rw [if_pos e] at m; exact m
        · rw [if_neg e] at m; cases m
      volb := fun i hw a m => by
        by_cases e : i = 0
        · subst e; exact absurd h0 hw
        · rw [if_neg e] at m; cases m
      wdom := fun a m => ⟨by rw [List.mem_singleton.mp m, hp]; exact (fun z => by cases z), by unfold rm; rw [if_pos m]⟩
      ior := fun q e => by
        cases e
        exact ⟨start_get rfl, if_pos rfl, h0, .lst ds0, by
          unfold envOf
          rfl⟩ }
  refine sd _ _ _ _ _ _ _ r _ ?_
  unfold runF at h
  have aft : ∀ {Hs' H' : Hp} {env' : PEnv} {σ' : L2.St} {F' : Nat → List Addr} {wf' : List Addr}, Rel cf ⟨H, some p⟩ Hs' env' σ' H' F' wf' → ∃ xs' ds', ioOf env' = .lst ds' ∧ ds'.all D.sc = true ∧ RpL K true emp xs' ds' ∧ Ex (upd H p (.lst xs')) H' := fun {Hs' H' env' σ' F' wf'} r' => by
    obtain ⟨g1, g2, g3, d, g4⟩ := r'.ior p rfl
    obtain ⟨v, s1, s2⟩ := r'.slot 0 d g4
    rw [h0] at s2
    obtain ⟨p2, xs', ds', e1, e2, e3, e4, e5, e6⟩ := s2
    rw [g2] at e3
    have e3 : p = p2 := by simpa using e3
    subst e3
    refine ⟨xs', ds', by rw [ioOf_get g4, e2], e5, by rw [← hK]; exact e6, fun a o ha => ?_⟩
    by_cases e : a = p
    · subst e; rw [upd_same] at ha; cases ha; exact e4
    · rw [upd_ne e] at ha
      exact r'.exs a o (r'.ex0 a o ha (fun z => by cases z; exact e rfl))
  cases q : g (envOf N.length (.lst ds0 :: ds)) with
  | stuck => rw [q] at h; exact h.elim
  | ex c e =>
    rw [q] at h
    intro Hs' σ' H' F' wf' _ r'
    obtain ⟨xs', ds', a1, a2, a3, a4⟩ := aft r'
    exact h H' xs' ds' a1 a2 a3 a4
  | ok fl e =>
    rw [q] at h
    cases fl with
    | nx =>
      intro Hs' σ' H' F' wf' _ r'
      obtain ⟨xs', ds', a1, a2, a3, a4⟩ := aft r'
      exact h .non H' xs' ds' a1 a2 a3 a4 .non
    | rt d =>
      intro v Hs' σ' H' F' wf' _ r' pv
      obtain ⟨xs', ds', a1, a2, a3, a4⟩ := aft r'
      refine h v H' xs' ds' a1 a2 a3 a4 ?_
      rw [← hK]
      exact pv.mono fun a o ha => by
        have ha : rs (rm H' wf') H a = some o := ha
        cases z : H a with
        | none => rw [rs_none z] at ha; rw [nw_none z]; exact rm_sub _ _ a o ha
        | some u => rw [rs_some z] at ha; cases ha
    | bk => exact h.elim
    | ct => exact h.elim
end
end MV
namespace MV
open PySem PySem.Spec PyProof.Rows L2
section
variable {X : Cx} {cf : Cf} {W : WX} {c ca cb : Cls} {n n1 n2 : Bool} {a b : Expr} {ta tb : TE} {fa fb : M D} {pos : Pos}
theorem se_add (ha : SE X cf W c n1 a ta fa) (hb : SE X cf W c n2 b tb fb) : SE X cf W c true (.BinOp a .Add b pos) (tOp rAdd3 ta tb) (e2 gAdd fa fb) := se_bin op_add3 snd_add ha hb
theorem se_mul (ha : SE X cf W c n1 a ta fa) (hb : SE X cf W c n2 b tb fb) : SE X cf W c true (.BinOp a .Mult b pos) (tOp rMul2 ta tb) (e2 gMul fa fb) := se_bin op_mul2 snd_mul ha hb
theorem sc_sub : ScF (e2 gSub fa fb) := gI2_sc fun i j d h => by cases h; rfl
theorem sc_fdiv : ScF (e2 gFdiv fa fb) := gI2_sc fun i j d h => by split at h <;> cases h; rfl
theorem sc_mod : ScF (e2 gMod fa fb) := gI2_sc fun i j d h => by split at h <;> cases h; rfl
theorem sc_pow : ScF (e2 gPow fa fb) := gI2_sc fun i j d h => by split at h <;> cases h; rfl
theorem sc_le : ScF (e2 gLe fa fb) := gI2_sc fun i j d h => by cases h; rfl
theorem sc_map {o : Option Bool} {g : Bool → Bool} {d : D} (h : (o.map fun k => D.bl (g k)) = some d) : d.sc = true := by
  cases o with
  | none => cases h
  | some b => cases h; rfl
theorem sc_eq : ScF (e2 gEq fa fb) := e2_sc fun x y d h => sc_map (g := id) h
theorem se_sub (ha : SE X cf W ca n1 a ta fa) (hb : SE X cf W cb n2 b tb fb) : SE X cf W .V true (.BinOp a .Sub b pos) (tOp (rI0 fun i j => .int (i - j)) ta tb) (e2 gSub fa fb) := (se_bin op_sub snd_sub ha.b hb.b).low sc_sub
theorem se_fdiv (ha : SE X cf W ca n1 a ta fa) (hb : SE X cf W cb n2 b tb fb) : SE X cf W .V true (.BinOp a .FloorDiv b pos) (tOp rFdiv ta tb) (e2 gFdiv fa fb) := (se_bin (op_fdiv.or op_fdivW) snd_fdiv ha.b hb.b).low sc_fdiv
theorem se_mod (ha : SE X cf W ca n1 a ta fa) (hb : SE X cf W cb n2 b tb fb) : SE X cf W .V true (.BinOp a .Mod b pos) (tOp (rI (fun _ j => 0 < j) fun i j => .int (i % j)) ta tb) (e2 gMod fa fb) := (se_bin op_mod snd_mod ha.b hb.b).low sc_mod
theorem se_pow (ha : SE X cf W ca n1 a ta fa) (hb : SE X cf W cb n2 b tb fb) : SE X cf W .V true (.BinOp a .Pow b pos) (tOp (rI CPow fun i j => .int (i ^ j.toNat)) ta tb) (e2 gPow fa fb) := (se_bin op_pow snd_pow ha.b hb.b).low sc_pow
theorem se_neg (ha : SE X cf W ca n1 a ta fa) : SE X cf W .V true (.UnaryOp .USub a pos) (tUn (rU fun i => .int (-i)) ta) (e1 gNeg fa) := (se_una un_neg snd_neg ha.b).low (e1_sc fun x d h => by
  unfold gNeg at h
  split at h <;> cases h; rfl)
theorem se_le (ha : SE X cf W ca n1 a ta fa) (hb : SE X cf W cb n2 b tb fb) : SE X cf W .V true (.Compare a [.LtE] [b] pos) (tOp (rI0 fun i j => .bl (decide (i ≤ j))) ta tb) (e2 gLe fa fb) := (se_cmp op_le snd_le ha.b hb.b (nomark _)).low sc_le
theorem se_eq (hK : cf.K = X.K) (hu : X.A.units + 64 < cLine) (ha : SE X cf W ca n1 a ta fa) (hb : SE X cf W cb n2 b tb fb) : SE X cf W .V true (.Compare a [.Eq] [b] pos) (tOp (rEq2 cf.K) ta tb) (e2 gEq fa fb) := by
  rw [hK]
  exact (se_cmp (op_eq2 hu) (by rw [hK]; exact snd_eq) ha.b hb.b (nomark _)).low sc_eq
theorem st_lt (ha : SE X cf W ca n1 a ta fa) (hb : SE X cf W cb n2 b tb fb) : ST X cf W (.Compare a [.Lt] [b] pos) (tTest (tOp (rI0 fun i j => .bl (decide (i < j))) ta tb)) (tB (e2 gLt fa fb)) := st_cmp op_lt snd_lt ha.b hb.b (nomark _)
theorem st_le (ha : SE X cf W ca n1 a ta fa) (hb : SE X cf W cb n2 b tb fb) : ST X cf W (.Compare a [.LtE] [b] pos) (tTest (tOp (rI0 fun i j => .bl (decide (i ≤ j))) ta tb)) (tB (e2 gLe fa fb)) := st_cmp op_le snd_le ha.b hb.b (nomark _)
theorem st_gt (ha : SE X cf W ca n1 a ta fa) (hb : SE X cf W cb n2 b tb fb) : ST X cf W (.Compare a [.Gt] [b] pos) (tTest (tOp (rI0 fun i j => .bl (decide (j < i))) ta tb)) (tB (e2 gGt fa fb)) := st_cmp op_gt snd_gt ha.b hb.b (nomark _)
theorem st_ge (ha : SE X cf W ca n1 a ta fa) (hb : SE X cf W cb n2 b tb fb) : ST X cf W (.Compare a [.GtE] [b] pos) (tTest (tOp (rI0 fun i j => .bl (decide (j ≤ i))) ta tb)) (tB (e2 gGe fa fb)) := st_cmp op_ge snd_ge ha.b hb.b (nomark _)
theorem st_eq (hK : cf.K = X.K) (hu : X.A.units + 64 < cLine) (ha : SE X cf W ca n1 a ta fa) (hb : SE X cf W cb n2 b tb fb) : ST X cf W (.Compare a [.Eq] [b] pos) (tTest (tOp (rEq2 cf.K) ta tb)) (tB (e2 gEq fa fb)) := by
  rw [hK]
  exact st_cmp (op_eq2 hu) (by rw [hK]; exact snd_eq) ha.b hb.b (nomark _)
theorem st_ne (hK : cf.K = X.K) (hu : X.A.units + 64 < cLine) (ha : SE X cf W ca n1 a ta fa) (hb : SE X cf W cb n2 b tb fb) : ST X cf W (.Compare a [.NotEq] [b] pos) (tTest (tOp (rNe2 cf.K) ta tb)) (tB (e2 gNe fa fb)) := by
  rw [hK]
  exact st_cmp (op_ne2 hu) (by rw [hK]; exact snd_ne) ha.b hb.b (nomark _)
theorem st_isN (ha : SE X cf W ca n1 a ta fa) (hb : SE X cf W cb n2 b tb fb) : ST X cf W (.Compare a [.Is] [b] pos) (tTest (tOp (fun x y H Q => y = .non ∧ Q (.bl (decide (x = .non))) H) ta tb)) (tB (e2 gIsN fa fb)) := st_cmp op_isN snd_isN ha.b hb.b (nomark _)
theorem st_notIn (hK : cf.K = X.K) (ha : SE X cf W ca n1 a ta fa) (hb : SE X cf W cb n2 b tb fb) (hm : behindInMarks .NotIn b = false := by rfl) : ST X cf W (.Compare a [.NotIn] [b] pos) (tTest (tOp (rNotIn2 cf.K) ta tb)) (tB (e2 gNotIn fa fb)) := by
  rw [hK]
  exact st_cmp op_notIn2 (by rw [hK]; exact snd_notIn) ha.b hb.b hm
variable {p : Pos} {tA : TA} {fA : M (List D)} {e : Expr} {es : List Expr}
theorem SA.one (h : SE X cf W ca n1 a ta fa) (hs : starEach [a] X.env = (false, eval a X.env) :: starEach [] X.env := by rfl) : SA X cf W .B [a] (tCons ta tNil) (aCons fa aNil) := sa_cons h.b sa_nil hs
theorem scN {g : List D → Option D} (hg : ∀ x d, g x = some d → d.sc = true) : ScF (eN g fA) := eN_sc hg
theorem sc_len (x : List D) (d : D) (h : gLen x = some d) : d.sc = true := by
  unfold gLen at h
  split at h
  · cases h; rfl
  · cases h; rfl
  · split at h <;> cases h; rfl
  · cases h
theorem sc_max2 (x : List D) (d : D) (h : gMax2 x = some d) : d.sc = true := by unfold gMax2 at h; split at h <;> cases h; rfl
theorem sc_min2 (x : List D) (d : D) (h : gMin2 x = some d) : d.sc = true := by unfold gMin2 at h; split at h <;> cases h; rfl
theorem sc_int1 (x : List D) (d : D) (h : gInt1 x = some d) : d.sc = true := by unfold gInt1 at h; split at h <;> cases h <;> rfl
theorem sc_sum (x : List D) (d : D) (h : gSum x = some d) : d.sc = true := by
  unfold gSum at h
  split at h
  · rename_i ds
    cases z : asInts ds with
    | none => rw [z] at h; cases h
    | some ns => rw [z] at h; cases h; rfl
  · cases h
theorem se_len (hK : cf.K = X.K) (hm : X.mg "len" = none) (ha : SA X cf W ca (e :: es) tA fA) (hg : Gl X "len" := by rfl) (he : starEach (e :: es) X.env = (false, eval e X.env) :: starEach es X.env := by rfl) (hpl : (backTo pos (starEach es X.env)).any (·.1) = false := by rfl) :
    SE X cf W .V true (.Call (.Name "len" p) (e :: es) [] pos) (tCB (fun xs H Q => ∃ x n, xs = [x] ∧ LenV cf.K x H n ∧ Q (.int n) H) tA) (eN gLen fA) := by
  rw [hK]
  exact (se_cb call_len (n := true) (by rw [hK]; exact snd_len) hg hm PySem.boot_len ha (by decide) (by decide) he hpl).low (scN sc_len)
theorem se_max2 (hc : X.calm = true) (hm : X.mg "max" = none) (ha : SA X cf W ca (e :: es) tA fA) (hg : Gl X "max" := by rfl) (he : starEach (e :: es) X.env = (false, eval e X.env) :: starEach es X.env := by rfl) (hpl : (backTo pos (starEach es X.env)).any (·.1) = false := by rfl) :
    SE X cf W .V true (.Call (.Name "max" p) (e :: es) [] pos) (tCB (fun xs H Q => ∃ i j, xs = [.int i, .int j] ∧ Q (.int (if j > i then j else i)) H) tA) (eN gMax2 fA) := (se_cb (call_max2 hc) (n := true) snd_max2 hg hm (by decide +kernel) ha (by decide) (by decide) he hpl).low (scN sc_max2)
theorem se_min2 (hc : X.calm = true) (hm : X.mg "min" = none) (ha : SA X cf W ca (e :: es) tA fA) (hg : Gl X "min" := by rfl) (he : starEach (e :: es) X.env = (false, eval e X.env) :: starEach es X.env := by rfl) (hpl : (backTo pos (starEach es X.env)).any (·.1) = false := by rfl) :
    SE X cf W .V true (.Call (.Name "min" p) (e :: es) [] pos) (tCB (fun xs H Q => ∃ i j, xs = [.int i, .int j] ∧ Q (.int (if j < i then j else i)) H) tA) (eN gMin2 fA) := (se_cb (call_min2 hc) (n := true) snd_min2 hg hm (by decide +kernel) ha (by decide) (by decide) he hpl).low (scN sc_min2)
theorem se_sum (hK : cf.K = X.K) (hc : X.calm = true) (hm : X.mg "sum" = none) (ha : SA X cf W ca (e :: es) tA fA) (hg : Gl X "sum" := by rfl) (he : starEach (e :: es) X.env = (false, eval e X.env) :: starEach es X.env := by rfl) (hpl : (backTo pos (starEach es X.env)).any (·.1) = false := by rfl) :
    SE X cf W .V true (.Call (.Name "sum" p) (e :: es) [] pos) (tCB (rSum cf.K) tA) (eN gSum fA) := by
  rw [hK]
  exact (se_cb (cr_sum hc) (n := true) (by rw [hK]; exact snd_sum) hg hm (by decide +kernel) ha (by decide) (by decide) he hpl).low (scN sc_sum)
theorem se_int1 (hm : X.mg "int" = none) (ha : SA X cf W ca (e :: es) tA fA) (hg : Gl X "int" := by rfl) (he : starEach (e :: es) X.env = (false, eval e X.env) :: starEach es X.env := by rfl) (hpl : (backTo pos (starEach es X.env)).any (·.1) = false := by rfl) :
    SE X cf W .V true (.Call (.Name "int" p) (e :: es) [] pos) (tCB (fun xs H Q => (∃ i, xs = [.int i] ∧ Q (.int i) H) ∨ ∃ k, xs = [.bl k] ∧ Q (.int (if k then 1 else 0)) H) tA) (eN gInt1 fA) := (se_ct call_int1 (n := true) snd_int1 hg hm (by decide +kernel) ha (by decide) (by decide) he hpl).low (scN sc_int1)
theorem se_list1 (hK : cf.K = X.K) (hm : X.mg "list" = none) (ha : SA X cf W c (e :: es) tA fA) (hg : Gl X "list" := by rfl) (he : starEach (e :: es) X.env = (false, eval e X.env) :: starEach es X.env := by rfl) (hpl : (backTo pos (starEach es X.env)).any (·.1) = false := by rfl) (hcm : X.calm = true := by rfl) :
    SE X cf W c true (.Call (.Name "list" p) (e :: es) [] pos) (tCB (rList1 cf.K) tA) (eN gList1 fA) := by
  rw [hK]
  exact se_ct (call_list_of.or (call_listS hcm)) (n := true) (by rw [hK]; exact snd_list1) hg hm (by decide +kernel) ha (by decide) (by decide) he hpl
end
end MV
namespace MV
open PySem PySem.Spec PyProof.Rows L2
def D.ty : D → Option String
  | .non => some "NoneType"
  | .bl _ => some "bool"
  | .int _ => some "int"
  | .str _ => some "str"
  | .lst _ => some "list"
  | .tup _ => some "tuple"
  | .dic _ => some "dict"
  | .dit _ => none
  | .exc _ => none
def isiB (a T : String) : Bool := a == T || (a == "bool" && T == "int")
def gIsi (T : String) (d : D) : Option D := match d.ty with
  | some a => some (.bl (isiB a T))
  | none => none
def eIsi (T : String) (f : M D) : M D := e1 (gIsi T) f
section
variable {X : Cx} {cf : Cf} {W : WX} {c ca cb : Cls} {n n1 n2 : Bool} {a b : Expr} {ta tb : TE} {fa fb : M D} {pos : Pos}
def eSlQ (i : Nat) (lo hi : M (Option Int)) : M D := fun e => match lstAt i e with
  | none => .stuck
  | some _ => bnd lo (fun l => bnd hi fun h => fun e => match lstAt i e with
    | some ds => if ds.all D.sc then .ok (.lst (cutA ds l h)) e else .stuck
    | none => .stuck) e
theorem q_list {R : Rs} {Hs : Hp} {env : PEnv} {σ : L2.St} {H : Hp} {F : Nat → List Addr} {wf : List Addr} {i : Nat} {ds : List D} (r : Rel cf R Hs env σ H F wf) (hk : cf.kd i = .Q) (h : lstAt i env = some ds) : ∃ p xs, σ[i]? = some (some (.ref p)) ∧ SqL cf.K H p xs ∧ RpL cf.K false Hs xs ds := by
  obtain ⟨v, h1, h2⟩ := r.slot i _ (lstAt_some h)
  rw [hk] at h2
  obtain ⟨a, xs, rfl, h3, h4⟩ := Rp.lst_inv h2
  exact ⟨a, xs, h1, ex_sql r.exs h3, h4⟩
theorem cut_all {ds : List D} {l h : Option Int} (hs : ds.all D.sc = true) : (cutA ds l h).all D.sc = true := by
  rw [List.all_eq_true] at hs ⊢
  intro x hx
  unfold cutA at hx
  exact hs x (List.mem_of_mem_drop (List.mem_of_mem_take hx))
theorem se_slQ {i : Nat} {o : Expr} {lo hi : Option Expr} {tl th : TO} {fl fh : M (Option Int)} {p2 : Pos} (hK : cf.K = X.K) (po : PE X o (tVar i)) (hk : cf.kd i = .Q) (hl : SO X cf W lo tl fl) (hh : SO X cf W hi th fh) : SE X cf W .V true (.Subscript o (.Slice lo hi none p2) pos) (tSl (rSlL cf.K) (tVar i) tl th) (eSlQ i fl fh) := by
  rw [hK]
  refine ⟨pe_slice sl_list po hl.p hh.p, Sd.mk (fun R Hs env σ H F wf r d env' q Q k => ?_) (fun R Hs env σ H F wf r x env' q Q k => ?_)⟩
  · unfold eSlQ at q
    cases q0 : lstAt i env with
    | none => simp only [q0] at q; cases q
    | some ds0 =>
      simp only [q0] at q
      obtain ⟨p0, xs0, a1, a2, a3⟩ := q_list r hk q0
      refine ⟨.ref p0, a1, ?_⟩
      obtain ⟨l, env1, q1, q⟩ := bnd_ok q
      obtain ⟨h, env2, q2, q⟩ := bnd_ok q
      refine hl.s.ok r q1 fun Hs1 H1 s1 r1 => hh.s.ok r1 q2 fun Hs2 H2 s2 r2 => ?_
      cases q3 : lstAt i env2 with
      | none => simp only [q3] at q; cases q
      | some ds =>
        simp only [q3] at q
        split at q
        · rename_i hsc
          cases q
          obtain ⟨p, xs, h1, h2, h3⟩ := q_list r2 hk q3
          have ep : p = p0 := by rw [h1] at a1; cases a1; rfl
          subst ep
          refine ⟨p, xs, rfl, by rw [← hK]; exact h2, fun pp hp => ?_⟩
          have rr : RpL cf.K true emp (cutV xs l h) (cutA ds l h) := (cutV_rp h3 l h).sc_any (cut_all hsc) _ _
          have hst : H pp = none := by
            cases z : H pp with
            | none => rfl
            | some u => exact absurd hp ((s1.trans s2).dom pp (by rw [z]; exact fun y => by cases y))
          have pv : Rp cf.K true (rs (grow Hs2 H2 (upd H2 pp (.lst (cutV xs l h)))) H) (.ref pp) (.lst (cutA ds l h)) := .lst (show rs _ H pp = _ by rw [rs_none hst, grow_none hp, upd_same]) (rr.sc_any (cut_all hsc) _ _)
          exact k _ (grow Hs2 H2 _) _ ((s1.trans s2).trans (Stp.grow r2.exs (Ex.new hp))) (r2.grow (Ex.new hp)) pv fun _ _ => pv
        · cases q
  · unfold eSlQ at q
    cases q0 : lstAt i env with
    | none => simp only [q0] at q; cases q
    | some ds0 =>
      simp only [q0] at q
      obtain ⟨p0, xs0, a1, a2, a3⟩ := q_list r hk q0
      refine ⟨.ref p0, a1, ?_⟩
      rcases bnd_ex q with q | ⟨l, env1, q1, q⟩
      · exact hl.s.exn r q k
      · rcases bnd_ex q with q | ⟨h, env2, q2, q⟩
        · exact hl.s.ok r q1 fun Hs1 H1 s1 r1 => hh.s.exn r1 q fun Hs2 H2 s2 r2 => k Hs2 H2 (s1.trans s2) r2
        · cases q3 : lstAt i env2 with
          | none => simp only [q3] at q; cases q
          | some ds => simp only [q3] at q; split at q <;> cases q
end
def spLaw (K : PySem.W.Frag) (F : List D → FR) : Sp := fun vs H Q _ => vs.length = 1 ∧ ∃ (a : Addr) (ns : List Int), vs = [.ref a] ∧ SqL K H a (ns.map V.int) ∧ (∃ io, F [.lst (ns.map .int)] = .ok (.bl true) io) ∧ ∀ H', Q (.bl true) H'
section
variable {P : Program} {w : World} {K : PySem.W.Frag} {mg : Str → Option Value} {base : Heap}
theorem rpl_ints {K : PySem.W.Frag} {x : Bool} {G : Hp} : ∀ ns : List Int, RpL K x G (ns.map V.int) (ns.map D.int)
  | [] => .nil
  | n :: ns => .cons (.int n) (rpl_ints ns)
theorem fn_law {x qual : Str} {st : Stmt} {f : Addr} {fd : FuncData} (N : List Str) (mN : Nat) {y : Str} {k : Nat} (cf : Cf) (g : M Fl) (hN : N.length = mN) (F : Fun K x qual st f fd) (S : FnScope N [y] (defScope st)) (hK : cf.K = K) (hk : cf.kd 0 = .Q)
    (hbody : ∀ (cdv : Value) (A : Around) (outer : List Env) (s : Shared) (H : Hp) (E : XK), Room k (A.deeper (envOfC qual (defScope st) s.heap.objs.size f cdv)) → SSs (cxOf CX0 P w K mg base N qual (defScope st) f cdv A outer s H E).nox cf W0 (defBody st) g) :
    FnOk P w K mg base CX0 (k + 1) f fd [y] (spLaw K (runF mN g)) := by
  subst hN
  refine F.ok S (fun vs H Q E h => h.1) (fun cdv A outer s H vs Q E hr h => ?_)
  obtain ⟨hl, a, ns, rfl, hS, ⟨io, h⟩, hq⟩ := h
  obtain ⟨t, p, sd⟩ := hbody cdv A outer s H E hr
  refine ⟨t, p, ?_⟩
  have r : Rel cf ⟨H, none⟩ H (envOf N.length [.lst (ns.map .int)]) (L2.start N [.ref a]) H (fun _ => []) [] :=
    { len := env_len rfl
      exs := Ex.refl _
      ex0 := fun a o h _ => h
      dom0 := fun a h => h
      slot := fun i d q => by
        have q := envOf_get q
        cases i with
        | zero =>
          have q : D.lst (ns.map .int) = d := by simpa using q
          subst q
          refine ⟨.ref a, start_get rfl, ?_⟩
          rw [hk, hK]
          exact .lst hS (rpl_ints ns)
        | succ i => simp at q
      nod := fun _ => List.nodup_nil
      dis := fun _ _ _ _ m => by cases m
      fdom := fun _ _ m => by cases m
      uns := fun _ _ m => by cases m
      new := fun _ _ m => by cases m
      volw := fun _ _ _ m => by cases m
      volb := fun _ _ _ m => by cases m
      wdom := fun _ m => by cases m
      ior := fun p h => by cases h }
  refine sd _ _ _ _ _ _ _ r _ ?_
  unfold runF at h
  cases q : g (envOf N.length [.lst (ns.map .int)]) with
  | stuck => rw [q] at h; cases h
  | ex c e => rw [q] at h; cases h
  | ok fl e =>
    rw [q] at h
    cases fl with
    | nx => cases h
    | rt d =>
      cases h
      exact fun v Hs' σ' H' F' wf' _ r' pv => by rw [pv.bl_inv]; exact hq H'
    | bk => cases h
    | ct => cases h
end
end MV
namespace MV
open PySem PySem.Spec PyProof.Rows L2
theorem aLen1 {fr : M (List D)} {m : Nat} (h : ∀ ds env env', fr env = .ok ds env' → ds.length = m) : ∀ ds env env', fr env = .ok ds env' → ds.length + 1 = m + 1 := fun ds e e2 q => congrArg (· + 1) (h ds e e2 q)
def WFUEL : Nat := 1000000
theorem own1 {cf : Cf} {x : Str} {j : Nat} (h : cf.kd j = .S) : ∀ i ∈ ([(x, j)] : List (Str × Nat)).map (·.2), cf.kd i = .S := fun i m => by
  rw [List.mem_singleton.mp m]; exact h
theorem own2 {cf : Cf} {x y : Str} {j k : Nat} (h : cf.kd j = .S) (h2 : cf.kd k = .S) : ∀ i ∈ ([(x, j), (y, k)] : List (Str × Nat)).map (·.2), cf.kd i = .S := fun i m => by
  rcases List.mem_cons.mp m with e | m
  · rw [e]; exact h
  · rw [List.mem_singleton.mp m]; exact h2
section
variable {X : Cx} {cf : Cf} {W : WX} {c ca cb : Cls} {n n1 n2 : Bool}
section
variable {a b d e : Expr} {ta tb td te : TT} {fa fb fd fe : M Bool} {pos : Pos}
theorem st_or2 (ha : ST X cf W a ta fa) (hb : ST X cf W b tb fb) : ST X cf W (.BoolOp .Or [a, b] pos) (tOr ta tb) (tOr2 fa fb) := SW.st (sw_or ha (sw_or1 hb))
theorem st_and2 (ha : ST X cf W a ta fa) (hb : ST X cf W b tb fb) : ST X cf W (.BoolOp .And [a, b] pos) (tAnd ta tb) (tAnd2 fa fb) := SW.st (sw_and ha (sw_and1 hb))
end
def sAug (g : Int → Int → Int) (i : Nat) (f : M D) : M Fl := fun e => match e[i]? with
  | some (some (.int x)) => bnd f (fun y => fun e => match y with
    | .int y => .ok .nx (e.set i (some (.int (g x y))))
    | _ => .stuck) e
  | _ => .stuck
theorem ss_aug {i : Nat} {x : Str} {op : Operator} {g : Int → Int → Int} {e : Expr} {te : TE} {f : M D} {pos' pos : Pos} (ho : PIp X op (ipI g)) (hk : cf.kd i = .S ∨ cf.kd i = .N) (h : SE X cf W c n e te f) (hN : X.N.Nodup) (hi : X.N[i]? = some x) (hx : Loc X.env.scope x)
    (hf : X.fn x = true ∨ X.env.scope.names.lookup x = some .local := by first | exact .inl rfl | exact .inr rfl | assumption) : SS X cf W (.AugAssign (.Name x pos') op e pos) (sAug g i f) := by
  refine ⟨_, ps_aug hN hi hx h.p ho hf, fun R Hs env σ H F wf r D hp => ?_⟩
  unfold sAug at hp
  split at hp
  · rename_i x0 q
    obtain ⟨v, h1, h2⟩ := r.slot i _ q
    have ev : v = .int x0 := by
      rcases hk with hk | hk
      · rw [hk] at h2; exact Rp.int_inv h2
      · rw [hk] at h2; exact Rp.int_inv h2
    refine ⟨v, h1, ?_⟩
    refine h.s.bind r hp fun d env1 w Hs1 H1 s1 r1 p1 _ hp => ?_
    cases d with
    | int y =>
      refine ⟨x0, y, ev, p1.int_inv, ?_⟩
      refine hp Hs1 _ H1 F wf s1.ex (r1.put (i := i) (v := .int (g x0 y)) (d := .int (g x0 y)) ?_ fun F' => ?_)
      · rcases hk with hk | hk <;> rw [hk] <;> exact fun z => by cases z
      · rcases hk with hk | hk <;> rw [hk] <;> exact .int _
    | _ => exact hp.elim
  · exact hp.elim
theorem ss_iadd {i : Nat} {x : Str} {e : Expr} {te : TE} {f : M D} {pos' pos : Pos} (hk : cf.kd i = .S ∨ cf.kd i = .N) (h : SE X cf W c n e te f) (hN : X.N.Nodup) (hi : X.N[i]? = some x) (hx : Loc X.env.scope x) (hf : X.fn x = true ∨ X.env.scope.names.lookup x = some .local := by first | exact .inl rfl | exact .inr rfl | assumption) :
    SS X cf W (.AugAssign (.Name x pos') .Add e pos) (sAug (fun i j => i + j) i f) := ss_aug ip_add hk h hN hi hx hf
theorem ss_isub {i : Nat} {x : Str} {e : Expr} {te : TE} {f : M D} {pos' pos : Pos} (hk : cf.kd i = .S ∨ cf.kd i = .N) (h : SE X cf W c n e te f) (hN : X.N.Nodup) (hi : X.N[i]? = some x) (hx : Loc X.env.scope x) (hf : X.fn x = true ∨ X.env.scope.names.lookup x = some .local := by first | exact .inl rfl | exact .inr rfl | assumption) :
    SS X cf W (.AugAssign (.Name x pos') .Sub e pos) (sAug (fun i j => i - j) i f) := ss_aug ip_sub hk h hN hi hx hf
def sUnp (f : M D) (tg : D → M Unit) : M Fl := bnd f fun d => bnd (tg d) fun _ => ret .nx
theorem ss_unp {tgt e : Expr} {te : TE} {f : M D} {is : List Nat} {g : TG} {ft : D → M Unit} {pos : Pos} (h : SE X cf W .S n e te f) (hg : SGt X cf is tgt g ft)
    (hs : swapsWithSole [tgt] e pos.line X.env = pure false := by rfl) (hw : swappedStores [tgt] e X.env = pure none := by rfl) (h1 : (assignEach [tgt] X.env).map (·.2) = [assign tgt X.env] := by rfl) :
    SS X cf W (.Assign [tgt] e pos) (sUnp f ft) := by
  refine ⟨_, ps_asg h.p hg.p hs hw h1, fun R Hs env σ H F wf r D hp => ?_⟩
  refine h.s.bind r hp fun d env1 v Hs1 H1 s1 r1 p1 _ hp => ?_
  have hh := hg.s R Hs1 env1 σ H1 F wf r1 d v p1 D.nx
  cases q : ft d env1 with
  | stuck => rw [bnd_of_stuck q] at hp; exact hp.elim
  | ex x env2 => rw [q] at hh; exact hh.elim
  | ok u env2 =>
    rw [q] at hh
    rw [bnd_of_ok q] at hp
    exact hh fun σ' r' _ _ => hp Hs1 σ' H1 F wf s1.ex r'
end
end MV
namespace MV
open PySem (Str)
abbrev dI (l : List Int) : D := .lst (l.map .int)
abbrev dT (l : List Str) : D := .lst (l.map .str)
def rb {α β : Type} (r : Res α) (k : α → PEnv → Res β) : Res β := match r with
  | .ok a e => k a e
  | .ex c e => .ex c e
  | .stuck => .stuck
section
variable {α β : Type} {m : M α} {k : α → M β} {e : PEnv} {f g fa fb fc : M D} {a b : M Fl} {t u : M Bool} {r : M (List D)}
@[simp] theorem rb_ok {a : α} {e : PEnv} {k : α → PEnv → Res β} : rb (.ok a e) k = k a e := (rfl)
@[simp] theorem rb_ex {c : Str} {e : PEnv} {k : α → PEnv → Res β} : rb (.ex c e) k = .ex c e := (rfl)
@[simp] theorem rb_stuck {k : α → PEnv → Res β} : rb .stuck k = .stuck := (rfl)
@[simp] theorem rb_ite {p : Prop} [Decidable p] {x y : Res α} {k : α → PEnv → Res β} : rb (if p then x else y) k = if p then rb x k else rb y k := by split <;> rfl
@[simp] theorem r_ret {x : α} : ret x e = .ok x e := (rfl)
@[simp] theorem r_bnd : bnd m k e = rb (m e) k := (rfl)
@[simp] theorem r_lift_some {x : α} : lift (some x) e = .ok x e := (rfl)
@[simp] theorem r_lift_none : lift (none : Option α) e = .stuck := (rfl)
@[simp] theorem r_lift_ite {p : Prop} [Decidable p] {x y : Option α} : lift (if p then x else y) e = if p then lift x e else lift y e := by split <;> rfl
@[simp] theorem r_fail : (fail : M α) e = .stuck := (rfl)
@[simp] theorem r_eC {d : D} : eC d e = .ok d e := (rfl)
def getE (o : Option (Option D)) (e : PEnv) : Res D := match o with
  | some (some d) => .ok d e
  | _ => .stuck
@[simp] theorem getE_some {d : D} : getE (some (some d)) e = .ok d e := (rfl)
@[simp] theorem r_eV {i : Nat} : eV i e = getE (e[i]?) e := (rfl)
@[simp] theorem r_e1 {h : D → Option D} : e1 h fa e = rb (fa e) fun x e => lift (h x) e := (rfl)
@[simp] theorem r_e2 {h : D → D → Option D} : e2 h fa fb e = rb (fa e) fun x e => rb (fb e) fun y e => lift (h x y) e := (rfl)
@[simp] theorem r_eN {h : List D → Option D} : eN h r e = rb (r e) fun x e => lift (h x) e := (rfl)
@[simp] theorem r_aNil : aNil e = .ok [] e := (rfl)
@[simp] theorem r_aCons : aCons fa r e = rb (fa e) fun x e => rb (r e) fun xs e => .ok (x :: xs) e := (rfl)
@[simp] theorem r_tB : tB fa e = rb (fa e) fun x e => lift (asB x) e := (rfl)
@[simp] theorem r_asB {b : Bool} : asB (.bl b) = some b := (rfl)
@[simp] theorem r_tAnd2 : tAnd2 t u e = rb (t e) fun x e => if x then u e else .ok false e := by
  show rb (t e) _ = _
  congr 1; funext x e; cases x <;> rfl
@[simp] theorem r_tOr2 : tOr2 t u e = rb (t e) fun x e => if x then .ok true e else u e := by
  show rb (t e) _ = _
  congr 1; funext x e; cases x <;> rfl
@[simp] theorem r_tNot1 : tNot1 t e = rb (t e) fun x e => .ok (!x) e := (rfl)
@[simp] theorem r_tTrue : tTrue e = .ok true e := (rfl)
@[simp] theorem r_eAndV : eAndV fa fb e = rb (fa e) fun x e => rb (lift (asB x) e) fun k e => if k then fb e else .ok (.bl false) e := by
  show rb (fa e) _ = _
  congr 1; funext x e
  show rb _ _ = _
  congr 1; funext k e; cases k <;> rfl
@[simp] theorem r_eOrV : eOrV fa fb e = rb (fa e) fun x e => rb (lift (asB x) e) fun k e => if k then .ok (.bl true) e else fb e := by
  show rb (fa e) _ = _
  congr 1; funext x e
  show rb _ _ = _
  congr 1; funext k e; cases k <;> rfl
@[simp] theorem r_eNotV : eNotV fa e = rb (fa e) fun x e => rb (lift (asB x) e) fun k e => .ok (.bl (!k)) e := (rfl)
@[simp] theorem r_eIfE : eIfE t fa fb e = rb (t e) fun k e => if k then fa e else fb e := by
  show rb (t e) _ = _
  congr 1; funext k e; cases k <;> rfl
@[simp] theorem r_eF : eF fa e = rb (fa e) fun d e => if d.flat then .ok d e else .stuck := by
  show rb (fa e) _ = _
  congr 1; funext d e; cases h : d.flat <;> simp [h]
@[simp] theorem r_eS : eS fa e = rb (fa e) fun d e => if d.sc then .ok d e else .stuck := by
  show rb (fa e) _ = _
  congr 1; funext d e; cases h : d.sc <;> simp [h]
@[simp] theorem r_sSkip : sSkip e = .ok .nx e := (rfl)
@[simp] theorem r_sBrk : sBrk e = .ok .bk e := (rfl)
@[simp] theorem r_sCont : sCont e = .ok .ct e := (rfl)
def sqK (b : M Fl) : Fl → PEnv → Res Fl
  | .nx, e => b e
  | .rt d, e => .ok (.rt d) e
  | .bk, e => .ok .bk e
  | .ct, e => .ok .ct e
@[simp] theorem sqK_nx : sqK b .nx e = b e := (rfl)
@[simp] theorem sqK_rt {d : D} : sqK b (.rt d) e = .ok (.rt d) e := (rfl)
@[simp] theorem sqK_bk : sqK b .bk e = .ok .bk e := (rfl)
@[simp] theorem sqK_ct : sqK b .ct e = .ok .ct e := (rfl)
@[simp] theorem r_sSeq : sSeq a b e = rb (a e) (sqK b) := by
  show rb (a e) _ = _
  congr 1; funext f e; cases f <;> rfl
@[simp] theorem r_sDrop : sDrop fa e = rb (fa e) fun _ e => .ok .nx e := (rfl)
@[simp] theorem r_sRet : sRet fa e = rb (fa e) fun d e => .ok (.rt d) e := (rfl)
@[simp] theorem r_sRetN : sRetN e = .ok (.rt .non) e := (rfl)
@[simp] theorem r_sIf : sIf t a b e = rb (t e) fun k e => if k then a e else b e := by
  show rb (t e) _ = _
  congr 1; funext k e; cases k <;> rfl
@[simp] theorem r_sSet {i : Nat} : sSet i fa e = rb (fa e) fun d e => .ok .nx (e.set i (some d)) := (rfl)
@[simp] theorem r_sSetM {i : Nat} : sSetM i fa e = rb (fa e) fun d e => if mok d then .ok .nx (e.set i (some d)) else .stuck := by
  show rb (fa e) _ = _
  congr 1; funext d e; cases h : mok d <;> simp [h]
@[simp] theorem r_sSetW {i : Nat} : sSetW i fa e = rb (fa e) fun d e => if wok d then .ok .nx (e.set i (some d)) else .stuck := by
  show rb (fa e) _ = _
  congr 1; funext d e; cases h : wok d <;> simp [h]
def lstO (o : Option (Option D)) : Option (List D) := match o with
  | some (some (.lst ds)) => some ds
  | _ => none
@[simp] theorem lstO_some {ds : List D} : lstO (some (some (.lst ds))) = some ds := (rfl)
@[simp] theorem r_lstAt {i : Nat} : lstAt i e = lstO (e[i]?) := (rfl)
def ro {α β : Type} (o : Option α) (k : α → Res β) : Res β := match o with
  | some a => k a
  | none => .stuck
@[simp] theorem ro_some {a : α} {k : α → Res β} : ro (some a) k = k a := (rfl)
@[simp] theorem ro_none {k : α → Res β} : ro none k = .stuck := (rfl)
@[simp] theorem r_sApp {i : Nat} : sApp i fa e = ro (lstO (e[i]?)) fun _ => rb (fa e) fun d e => ro (lstO (e[i]?)) fun ds => if ds.length < LIM then .ok .nx (e.set i (some (.lst (ds ++ [d])))) else .stuck := by
  unfold sApp
  show _ = ro (lstAt i e) _
  cases lstAt i e with
  | none => rfl
  | some ds =>
    show rb (fa e) _ = _
    simp only [ro_some]
    congr 1; funext d e
    show _ = ro (lstAt i e) _
    cases lstAt i e <;> rfl
def asInt : D → Option Int
  | .int i => some i
  | _ => none
@[simp] theorem asInt_int {i : Int} : asInt (.int i) = some i := (rfl)
@[simp] theorem r_sPut {i : Nat} : sPut i fa fb e = rb (fa e) fun d e => ro (lstO (e[i]?)) fun _ => rb (fb e) fun k e => ro (lstO (e[i]?)) fun ds => ro (asInt k) fun z => ro (L2.ixN ds.length z) fun j => .ok .nx (e.set i (some (.lst (ds.set j d)))) := by
  show rb (fa e) _ = _
  congr 1; funext d e
  show _ = ro (lstAt i e) _
  cases lstAt i e with
  | none => rfl
  | some ds =>
    show rb (fb e) _ = _
    simp only [ro_some]
    congr 1; funext k e
    show _ = ro (lstAt i e) _
    cases lstAt i e with
    | none => rfl
    | some ds =>
      simp only [ro_some]
      cases k <;> first | rfl | (simp only [asInt_int, ro_some]; cases L2.ixN ds.length _ <;> rfl)
@[simp] theorem r_sPutW {i : Nat} : sPutW i fa fb e = rb (fa e) fun d e => ro (lstO (e[i]?)) fun _ => rb (fb e) fun k e => ro (lstO (e[i]?)) fun ds => ro (asInt k) fun z => ro (L2.ixN ds.length z) fun j => if d.sc then .ok .nx (e.set i (some (.lst (ds.set j d)))) else .stuck := by
  show rb (fa e) _ = _
  congr 1; funext d e
  show _ = ro (lstAt i e) _
  cases lstAt i e with
  | none => rfl
  | some ds =>
    show rb (fb e) _ = _
    simp only [ro_some]
    congr 1; funext k e
    show _ = ro (lstAt i e) _
    cases lstAt i e with
    | none => rfl
    | some ds =>
      simp only [ro_some]
      cases k <;> first | rfl | (simp only [asInt_int, ro_some]; cases L2.ixN ds.length _ <;> rfl)
@[simp] theorem r_eIxW {i : Nat} : eIxW i fa e = ro (lstO (e[i]?)) fun _ => rb (fa e) fun k e => ro (lstO (e[i]?)) fun ds => ro (asInt k) fun z => ro (L2.atI ds z) fun d => .ok d e := by
  unfold eIxW
  show _ = ro (lstAt i e) _
  cases lstAt i e with
  | none => rfl
  | some ds =>
    show rb (fa e) _ = _
    simp only [ro_some]
    congr 1; funext k e
    show _ = ro (lstAt i e) _
    cases lstAt i e with
    | none => rfl
    | some ds =>
      simp only [ro_some]
      cases k <;> first | rfl | (simp only [asInt_int, ro_some]; cases L2.atI ds _ <;> rfl)
@[simp] theorem r_sAug {i : Nat} {h : Int → Int → Int} : sAug h i fa e = ro ((e[i]?).bind id |>.bind asInt) fun x => rb (fa e) fun y e => ro (asInt y) fun y => .ok .nx (e.set i (some (.int (h x y)))) := by
  unfold sAug
  cases q : e[i]? with
  | none => rfl
  | some o =>
    cases o with
    | none => rfl
    | some d =>
      cases d with
      | int x =>
        show rb (fa e) _ = rb (fa e) _
        congr 1; funext y e; cases y <;> rfl
      | _ => rfl
def frR {β : Type} (r : FR) (k : D → D → Res β) (kx : Str → D → Res β) : Res β := match r with
  | .ok d io => k d io
  | .ex x io => kx x io
  | .stuck => .stuck
@[simp] theorem frR_ok {d io : D} {k : D → D → Res β} {kx : Str → D → Res β} : frR (.ok d io) k kx = k d io := (rfl)
@[simp] theorem frR_ex {x : Str} {io : D} {k : D → D → Res β} {kx : Str → D → Res β} : frR (.ex x io) k kx = kx x io := (rfl)
@[simp] theorem r_eCall {F : List D → FR} : eCall F r e = rb (r e) fun ds e => frR (F ds) (fun d _ => .ok d e) fun x _ => .ex x e := (rfl)
@[simp] theorem r_eCallW {F : List D → FR} {i : Nat} : eCallW F i r e = ro (lstO (e[i]?)) fun _ => rb (r e) fun ds e => ro (lstO (e[i]?)) fun ds0 => frR (F (.lst ds0 :: ds)) (fun d io => if wok io then .ok d (e.set i (some io)) else .stuck) fun x io => if wok io then .ex x (e.set i (some io)) else .stuck := by
  unfold eCallW
  show _ = ro (lstAt i e) _
  cases lstAt i e with
  | none => rfl
  | some ds =>
    show rb (r e) _ = _
    simp only [ro_some]
    congr 1; funext ds e
    show _ = ro (lstAt i e) _
    cases lstAt i e with
    | none => rfl
    | some ds0 =>
      simp only [ro_some]
      show frW i (F _) e = _
      cases F (.lst ds0 :: ds) <;> rfl
@[simp] theorem r_oNone : oNone e = .ok none e := (rfl)
@[simp] theorem r_oSome : oSome fa e = rb (fa e) fun d e => ro (asInt d) fun i => .ok (some i) e := by
  show rb (fa e) _ = _
  congr 1; funext d e; cases d <;> rfl
@[simp] theorem r_eSl {lo hi : M (Option Int)} : eSl fa lo hi e = rb (fa e) fun x e => rb (lo e) fun l e => rb (hi e) fun h e => lift (gSl x l h) e := (rfl)
@[simp] theorem r_iL : iL fa e = rb (fa e) fun d e => lift (asL d) e := (rfl)
@[simp] theorem r_iLs : iLs fa e = rb (fa e) fun d e => lift (asLs d) e := (rfl)
@[simp] theorem r_asLs {ds : List D} : asLs (.lst ds) = if ds.all D.sc then some ds else none := (rfl)
@[simp] theorem r_iT : iT fa e = rb (fa e) fun d e => lift (asT d) e := (rfl)
@[simp] theorem r_iS : iS fa e = rb (fa e) fun d e => lift (asStr d) e := (rfl)
@[simp] theorem r_iN {h : List D → Option (List D)} : iN h r e = rb (r e) fun x e => lift (h x) e := (rfl)
@[simp] theorem r_asL {ds : List D} : asL (.lst ds) = some ds := (rfl)
@[simp] theorem r_asT {ds : List D} : asT (.tup ds) = some ds := (rfl)
@[simp] theorem r_asStr {z : Str} : asStr (.str z) = some (strD z) := (rfl)
@[simp] theorem r_sFor {fi : M (List D)} {tg : D → M Unit} : sFor fi tg b e = rb (fi e) fun ds e => sForL tg b ds e := (rfl)
@[simp] theorem r_tgN {i : Nat} {d : D} : tgN i d e = .ok () (e.set i (some d)) := (rfl)
@[simp] theorem r_tgT {is : List Nat} {ds : List D} : tgT is (.tup ds) e = ro (setAll is ds e) fun e' => .ok () e' := by
  show (match setAll is ds e with | some e' => Res.ok () e' | none => .stuck) = _
  cases setAll is ds e <;> rfl
@[simp] theorem r_setAll_nil : setAll [] [] e = some e := (rfl)
@[simp] theorem r_setAll_cons {i : Nat} {is : List Nat} {d : D} {ds : List D} : setAll (i :: is) (d :: ds) e = setAll is ds (e.set i (some d)) := (rfl)
def lcK (is : List Nat) (e : PEnv) (r : Res (List D)) : Res D := match r with
  | .ok acc e1 => .ok (.lst acc) (restE is e e1)
  | _ => .stuck
@[simp] theorem lcK_ok {is : List Nat} {acc : List D} {e e1 : PEnv} : lcK is e (.ok acc e1) = .ok (.lst acc) (restE is e e1) := (rfl)
@[simp] theorem r_eLc {is : List Nat} {fi : M (List D)} {tg : D → M Unit} : eLc is fi tg t fa e = rb (fi e) fun ds e => lcK is e (lcGo is tg t fa ds [] (wipeE is e)) := (rfl)
@[simp] theorem wipeE_nil : wipeE [] e = e := (rfl)
@[simp] theorem wipeE_cons {v : Nat} {vs : List Nat} : wipeE (v :: vs) e = (wipeE vs e).set v none := (rfl)
@[simp] theorem restE_nil {e1 : PEnv} : restE [] e e1 = e1 := (rfl)
@[simp] theorem restE_cons {v : Nat} {vs : List Nat} {e1 : PEnv} : restE (v :: vs) e e1 = (restE vs e e1).set v ((e[v]?).getD none) := (rfl)
def finF (r : Res Fl) : FR := match r with
  | .ok (.rt d) e => .ok d (ioOf e)
  | .ok .nx e => .ok .non (ioOf e)
  | .ex c e => .ex c (ioOf e)
  | _ => .stuck
theorem r_runF {n : Nat} {ds : List D} : runF n a ds = finF (a (envOf n ds)) := (rfl)
@[simp] theorem finF_rt {d : D} : finF (.ok (.rt d) e) = .ok d (ioOf e) := (rfl)
@[simp] theorem finF_nx : finF (.ok .nx e) = .ok .non (ioOf e) := (rfl)
@[simp] theorem finF_ex {c : Str} : finF (.ex c e) = .ex c (ioOf e) := (rfl)
@[simp] theorem finF_ite {p : Prop} [Decidable p] {x y : Res Fl} : finF (if p then x else y) = if p then finF x else finF y := by split <;> rfl
@[simp] theorem ioOf_some {d : D} {e : PEnv} : ioOf (some d :: e) = d := (rfl)
@[simp] theorem ioOf_nil : ioOf [] = .non := (rfl)
@[simp] theorem r_envOf {n : Nat} {ds : List D} : envOf n ds = ds.map some ++ List.replicate (n - ds.length) none := (rfl)
section
variable {i j : Int} {x y : Str} {l l2 ds ds2 : List D} {k : Bool}
@[simp] theorem gSub_i : gSub (.int i) (.int j) = some (.int (i - j)) := (rfl)
@[simp] theorem gAdd_i : gAdd (.int i) (.int j) = some (.int (i + j)) := (rfl)
@[simp] theorem gAdd_l : gAdd (.lst l) (.lst l2) = if l.length + l2.length ≤ LIM then some (.lst (l ++ l2)) else none := (rfl)
@[simp] theorem gAdd_s : gAdd (.str x) (.str y) = if x.length + y.length ≤ LIM then some (.str (x ++ y)) else none := (rfl)
@[simp] theorem gMul_i : gMul (.int i) (.int j) = if mulOk i j then some (.int (i * j)) else none := (rfl)
@[simp] theorem gMul_s : gMul (.str x) (.int i) = if x.length * i.toNat ≤ LIM ∧ -(2 ^ 63) ≤ i ∧ i < 2 ^ 31 then some (.str (repS x i.toNat)) else none := (rfl)
@[simp] theorem gFdiv_i : gFdiv (.int i) (.int j) = if L2.CDiv i j ∨ divW j = true then some (.int (i / j)) else none := (rfl)
@[simp] theorem gShr_i : gShr (.int i) (.int j) = if 0 ≤ j then some (.int (i / 2 ^ j.toNat)) else none := (rfl)
@[simp] theorem gShl_i : gShl (.int i) (.int j) = if L2.CPow i j then some (.int (i * 2 ^ j.toNat)) else none := (rfl)
@[simp] theorem gMod_i : gMod (.int i) (.int j) = if 0 < j then some (.int (i % j)) else none := (rfl)
@[simp] theorem gPow_i : gPow (.int i) (.int j) = if L2.CPow i j then some (.int (i ^ j.toNat)) else none := (rfl)
@[simp] theorem gLt_i : gLt (.int i) (.int j) = some (.bl (decide (i < j))) := (rfl)
@[simp] theorem gLe_i : gLe (.int i) (.int j) = some (.bl (decide (i ≤ j))) := (rfl)
@[simp] theorem gGt_i : gGt (.int i) (.int j) = some (.bl (decide (j < i))) := (rfl)
@[simp] theorem gGe_i : gGe (.int i) (.int j) = some (.bl (decide (j ≤ i))) := (rfl)
@[simp] theorem gNeg_i : gNeg (.int i) = some (.int (-i)) := (rfl)
@[simp] theorem gEq_i : gEq (.int i) (.int j) = some (.bl (decide (i = j))) := (rfl)
@[simp] theorem gNe_i : gNe (.int i) (.int j) = some (.bl (!decide (i = j))) := (rfl)
@[simp] theorem gEq_s : gEq (.str x) (.str y) = some (.bl (decide (x = y))) := (rfl)
@[simp] theorem gNe_s : gNe (.str x) (.str y) = some (.bl (!decide (x = y))) := (rfl)
@[simp] theorem gLst_ : gLst ds = if ds.length ≤ PySem.sizeLine then some (.lst ds) else none := (rfl)
@[simp] theorem gTupD_ : gTupD ds = if ds.length ≤ PySem.sizeLine then some (.tup ds) else none := (rfl)
@[simp] theorem gLen_l : gLen [.lst ds] = some (.int ds.length) := (rfl)
@[simp] theorem gLen_t : gLen [.tup ds] = some (.int ds.length) := (rfl)
@[simp] theorem gLen_s : gLen [.str x] = if x.length ≤ LIM then some (.int x.length) else none := (rfl)
@[simp] theorem gMax2_i : gMax2 [.int i, .int j] = some (.int (if j > i then j else i)) := (rfl)
@[simp] theorem gMin2_i : gMin2 [.int i, .int j] = some (.int (if j < i then j else i)) := (rfl)
@[simp] theorem gInt1_i : gInt1 [.int i] = some (.int i) := (rfl)
@[simp] theorem gInt1_b : gInt1 [.bl k] = some (.int (if k then 1 else 0)) := (rfl)
@[simp] theorem gList1_l : gList1 [.lst ds] = some (.lst ds) := (rfl)
@[simp] theorem gIx_l : gIx (.lst ds) (.int i) = L2.atI ds i := (rfl)
@[simp] theorem gIx_t : gIx (.tup ds) (.int i) = L2.atI ds i := (rfl)
@[simp] theorem gIx_s : gIx (.str x) (.int i) = if x.length ≤ LIM then (L2.atI x.cps.toList i).map fun c => .str ⟨#[c]⟩ else none := (rfl)
@[simp] theorem gSl_l {o o2 : Option Int} : gSl (.lst ds) o o2 = some (.lst (cutA ds o o2)) := (rfl)
@[simp] theorem gSl_s {o o2 : Option Int} : gSl (.str x) o o2 = if x.length ≤ LIM then some (.str (L2.cutS x o o2)) else none := (rfl)
@[simp] theorem gRev_l : gRev (.lst ds) = some (.lst ds.reverse) := (rfl)
@[simp] theorem gEn_l : gEn [.lst ds] = some (enumD ds) := (rfl)
@[simp] theorem gZp_l : gZp [.lst ds, .lst ds2] = some (zipD ds ds2) := (rfl)
@[simp] theorem gR1_i : gR1 [.int j] = if smallI j then some (rngD 0 j.toNat) else none := (rfl)
@[simp] theorem gR2_i : gR2 [.int i, .int j] = if smallI i && smallI j then some (rngD i (j - i).toNat) else none := (rfl)
@[simp] theorem sc_i : (D.int i).sc = true := (rfl)
@[simp] theorem sc_s : (D.str x).sc = true := (rfl)
@[simp] theorem sc_b : (D.bl k).sc = true := (rfl)
@[simp] theorem sc_n : D.non.sc = true := (rfl)
@[simp] theorem flat_i : (D.int i).flat = true := (rfl)
@[simp] theorem flat_s : (D.str x).flat = true := (rfl)
@[simp] theorem flat_b : (D.bl k).flat = true := (rfl)
@[simp] theorem flat_n : D.non.flat = true := (rfl)
@[simp] theorem flat_l : (D.lst ds).flat = ds.all D.sc := (rfl)
@[simp] theorem flat_t : (D.tup ds).flat = ds.all D.sc := (rfl)
@[simp] theorem wok_l : wok (.lst ds) = ds.all D.sc := (rfl)
@[simp] theorem mok_l : mok (.lst ds) = ds.all fun x => x.sc || match x with | .tup es => es.all D.sc | _ => false := (rfl)
theorem all_ints (l : List Int) : (l.map D.int).all D.sc = true := by simp [List.all_map]
theorem all_strs (l : List Str) : (l.map D.str).all D.sc = true := by simp [List.all_map]
@[simp] theorem mok_dI (l : List Int) : mok (dI l) = true := by simp [List.all_map]
@[simp] theorem mok_dT (l : List Str) : mok (dT l) = true := by simp [List.all_map]
@[simp] theorem flat_dI (l : List Int) : (dI l).flat = true := all_ints l
@[simp] theorem flat_dT (l : List Str) : (dT l).flat = true := all_strs l
@[simp] theorem wok_dI (l : List Int) : wok (dI l) = true := all_ints l
end
end
end MV
namespace MV
open PySem (Str PyData)
section
variable {tg : D → M Unit} {b : M Fl} {e : PEnv} {t : M Bool} {fe : M D} {is : List Nat}
theorem for_inv {ds : List D} (I : Nat → PEnv → Prop) (h0 : I 0 e) (hs : ∀ i d e, ds[i]? = some d → I i e → ∃ e1 e2 fl, tg d e = .ok () e1 ∧ b e1 = .ok fl e2 ∧ (fl = .nx ∨ fl = .ct) ∧ I (i + 1) e2) :
    ∃ e', sForL tg b ds e = .ok .nx e' ∧ I ds.length e' := by
  induction ds generalizing e I with
  | nil => exact ⟨e, rfl, h0⟩
  | cons d r ih =>
    obtain ⟨e1, e2, fl, h1, h2, h3, h4⟩ := hs 0 d e rfl h0
    obtain ⟨e', h5, h6⟩ := ih (e := e2) (fun i => I (i + 1)) h4 (fun i d e hd hi => hs (i + 1) d e (by simpa using hd) hi)
    refine ⟨e', ?_, by simpa using h6⟩
    rw [sForL, bnd_of_ok h1, bnd_of_ok h2]
    rcases h3 with rfl | rfl <;> exact h5
theorem while_inv (I : PEnv → Prop) (μ : PEnv → Nat) (Q : PEnv → Prop) (hs : ∀ e, I e → ∃ k e1, t e = .ok k e1 ∧ if k = true then ∃ fl e2, b e1 = .ok fl e2 ∧ (fl = .nx ∨ fl = .ct) ∧ I e2 ∧ μ e2 < μ e else Q e1) :
    ∀ (n : Nat) (e : PEnv), I e → μ e < n → ∃ e', sWhile t b n e = .ok .nx e' ∧ Q e' := by
  intro n
  induction n with
  | zero => intro e _ h; omega
  | succ n ih =>
    intro e hI hm
    obtain ⟨k, e1, h1, h2⟩ := hs e hI
    rw [sWhile, bnd_of_ok h1]
    cases k with
    | false => exact ⟨e1, rfl, h2⟩
    | true =>
      obtain ⟨fl, e2, h3, h4, h5, h6⟩ := h2
      obtain ⟨e', h7, h8⟩ := ih e2 h5 (by omega)
      refine ⟨e', ?_, h8⟩
      show bnd b (sAft (sWhile t b n)) e1 = _
      rw [bnd_of_ok h3]
      rcases h4 with rfl | rfl <;> exact h7
theorem lc_pure {α : Type} {φ : α → D} {p : α → Bool} {g : α → D} : ∀ (l : List α) (acc : List D), acc.length + l.length ≤ LIM →
    (∀ x ∈ l, ∃ e1 e2, tg (φ x) e = .ok () e1 ∧ t e1 = .ok (p x) e2 ∧ (p x = true → ∃ e3, fe e2 = .ok (g x) e3 ∧ wipeE is e3 = e) ∧ (p x = false → wipeE is e2 = e)) →
    lcGo is tg t fe (l.map φ) acc e = .ok (acc ++ (l.filter p).map g) e
  | [], acc, _, _ => by simp [lcGo]
  | x :: l, acc, hl, h => by
    obtain ⟨e1, e2, h1, h2, h3, h4⟩ := h x List.mem_cons_self
    rw [List.map_cons, lcGo, bnd_of_ok h1, bnd_of_ok h2]
    have ih := fun acc' hl' => lc_pure l acc' hl' fun y hy => h y (List.mem_cons_of_mem _ hy)
    rw [List.length_cons] at hl
    cases q : p x with
    | true =>
      obtain ⟨e3, h5, h6⟩ := h3 q
      show bnd fe _ e2 = _
      rw [bnd_of_ok h5, if_pos (by omega : acc.length < LIM)]
      show lcGo is tg t fe (l.map φ) (acc ++ [g x]) (wipeE is e3) = _
      rw [h6, ih (acc ++ [g x]) (by rw [List.length_append, List.length_singleton]; omega)]
      simp [List.filter_cons, q]
    | false =>
      show lcGo is tg t fe (l.map φ) acc (wipeE is e2) = _
      rw [h4 q, ih acc (by omega)]
      simp [List.filter_cons, q]
theorem lc_inv {ds : List D} (I : Nat → List D → PEnv → Prop) : ∀ (acc : List D) (e : PEnv), I 0 acc e → acc.length + ds.length ≤ LIM →
    (∀ i d acc e, ds[i]? = some d → I i acc e → ∃ e1 e2 k, tg d e = .ok () e1 ∧ t e1 = .ok k e2 ∧ (k = true → ∃ y e3, fe e2 = .ok y e3 ∧ I (i + 1) (acc ++ [y]) (wipeE is e3)) ∧ (k = false → I (i + 1) acc (wipeE is e2))) →
    ∃ a' e', lcGo is tg t fe ds acc e = .ok a' e' ∧ I ds.length a' e' := by
  induction ds generalizing I with
  | nil => intro acc e h0 _ _; exact ⟨acc, e, rfl, h0⟩
  | cons d r ih =>
    intro acc e h0 hl hs
    obtain ⟨e1, e2, k, h1, h2, h3, h4⟩ := hs 0 d acc e rfl h0
    rw [List.length_cons] at hl
    rw [lcGo, bnd_of_ok h1, bnd_of_ok h2]
    cases k with
    | true =>
      obtain ⟨y, e3, h5, h6⟩ := h3 rfl
      obtain ⟨a', e', h7, h8⟩ := ih (fun i => I (i + 1)) (acc ++ [y]) (wipeE is e3) h6 (by rw [List.length_append, List.length_singleton]; omega) (fun i d acc e hd hi => hs (i + 1) d acc e (by simpa using hd) hi)
      refine ⟨a', e', ?_, by simpa using h8⟩
      show bnd fe _ e2 = _
      rw [bnd_of_ok h5, if_pos (by omega : acc.length < LIM)]
      exact h7
    | false =>
      obtain ⟨a', e', h7, h8⟩ := ih (fun i => I (i + 1)) acc (wipeE is e2) (h4 rfl) (by omega) (fun i d acc e hd hi => hs (i + 1) d acc e (by simpa using hd) hi)
      exact ⟨a', e', h7, by simpa using h8⟩
end
section
variable {α β : Type}
theorem cutA_to (l : List α) (k : Nat) : cutA l none (some (k : Int)) = l.take k := by
  unfold cutA
  rw [HT.sIx_none, HT.sIx_nat, List.drop_zero, Nat.sub_zero]
  apply List.ext_getElem?
  intro i
  rw [List.getElem?_take, List.getElem?_take]
  by_cases h : i < k
  · by_cases h2 : i < l.length
    · rw [if_pos (by omega), if_pos h]
    · rw [List.getElem?_eq_none (by omega)]; simp
  · rw [if_neg (by omega), if_neg h]
theorem cutA_from (l : List α) (k : Nat) : cutA l (some (k : Int)) none = l.drop k := by
  unfold cutA
  rw [HT.sIx_none, HT.sIx_nat, List.take_of_length_le (by rw [List.length_drop]; omega)]
  apply List.ext_getElem?
  intro i
  rw [List.getElem?_drop, List.getElem?_drop]
  by_cases h2 : k ≤ l.length
  · rw [Nat.min_eq_left h2]
  · rw [List.getElem?_eq_none (by omega), List.getElem?_eq_none (by omega)]
theorem cutA_mid (l : List α) (i j : Nat) : cutA l (some (i : Int)) (some (j : Int)) = (l.drop i).take (j - i) := by
  unfold cutA
  rw [HT.sIx_nat, HT.sIx_nat]
  apply List.ext_getElem?
  intro m
  rw [List.getElem?_take, List.getElem?_take, List.getElem?_drop, List.getElem?_drop]
  by_cases h : i ≤ l.length
  · rw [Nat.min_eq_left h]
    by_cases h2 : i + m < l.length
    · by_cases h3 : m < j - i
      · rw [if_pos (by omega), if_pos h3]
      · rw [if_neg (by omega), if_neg h3]
    · rw [List.getElem?_eq_none (by omega)]; simp
  · rw [List.getElem?_eq_none (by omega), List.getElem?_eq_none (by omega)]; simp
theorem cutA_map (f : α → β) (l : List α) (lo hi : Option Int) : cutA (l.map f) lo hi = (cutA l lo hi).map f := by
  unfold cutA
  rw [List.length_map, List.map_take, List.map_drop]
theorem atI_eq (l : List α) (j : Nat) : L2.atI l (j : Int) = l[j]? := by
  cases h : l[j]? with
  | some v => exact L2.atI_nat h
  | none =>
    rw [List.getElem?_eq_none_iff] at h
    unfold L2.atI L2.ixN
    rw [if_pos (by omega), if_neg (by omega)]
    rfl
theorem atI_neg1 (l : List α) : L2.atI l (-1) = l.getLast? := by
  cases h : l with
  | nil => rfl
  | cons a r =>
    unfold L2.atI L2.ixN
    rw [if_neg (by decide), if_pos (by simp; omega)]
    rw [List.getLast?_eq_getElem?]
    show (a :: r)[(-1 + ((a :: r).length : Int)).toNat]? = _
    congr 1
    simp
    omega
end
theorem toPs_map {α : Type} {f : α → D} {g : α → PyData} (h : ∀ x, (f x).toP = some (g x)) : ∀ l : List α, toPs (l.map f) = some (l.map g)
  | [] => by rw [List.map_nil, toPs]; rfl
  | x :: l => by rw [List.map_cons, toPs, h, toPs_map h l]; rfl
theorem toP_int (i : Int) : (D.int i).toP = some (.int i) := by rw [D.toP]
theorem toP_str (x : Str) : (D.str x).toP = some (.str x) := by rw [D.toP]
theorem toP_lst {ds : List D} {ps : List PyData} (h : toPs ds = some ps) : (D.lst ds).toP = some (.list ps) := by rw [D.toP, h]; rfl
theorem toP_tup {ds : List D} {ps : List PyData} (h : toPs ds = some ps) : (D.tup ds).toP = some (.tuple ps) := by rw [D.toP, h]; rfl
theorem eqvAll_ints : ∀ a b : List Int, PyData.eqvAll (a.map .int) (b.map .int) = decide (a = b)
  | [], [] => by simp [PyData.eqvAll]
  | [], _ :: _ => by simp [PyData.eqvAll]
  | _ :: _, [] => by simp [PyData.eqvAll]
  | x :: a, y :: b => by
    rw [List.map_cons, List.map_cons, PyData.eqvAll, eqvAll_ints a b, PyData.eqv, Bool.eq_iff_iff]
    simp
theorem eqvAll_strs : ∀ a b : List Str, PyData.eqvAll (a.map .str) (b.map .str) = decide (a = b)
  | [], [] => by simp [PyData.eqvAll]
  | [], _ :: _ => by simp [PyData.eqvAll]
  | _ :: _, [] => by simp [PyData.eqvAll]
  | x :: a, y :: b => by
    rw [List.map_cons, List.map_cons, PyData.eqvAll, eqvAll_strs a b, PyData.eqv, Bool.eq_iff_iff]
    simp
theorem lay_ints : ∀ a : List Int, PyData.canLayAll0 (a.map .int) = true
  | [] => by simp [PyData.canLayAll0]
  | x :: a => by rw [List.map_cons, PyData.canLayAll0, PyData.canLay0, lay_ints a]; rfl
theorem depth_ints : ∀ a : List Int, PyData.depthAll (a.map .int) = 0
  | [] => by simp [PyData.depthAll]
  | x :: a => by rw [List.map_cons, PyData.depthAll, PyData.depth, depth_ints a]; rfl
def okS (x : Str) : Prop := PyData.strOk x = true
theorem lay_strs : ∀ a : List Str, (∀ x ∈ a, okS x) → PyData.canLayAll0 (a.map .str) = true
  | [], _ => by simp [PyData.canLayAll0]
  | x :: a, h => by rw [List.map_cons, PyData.canLayAll0, PyData.canLay0, lay_strs a fun y hy => h y (List.mem_cons_of_mem _ hy), h x List.mem_cons_self]; rfl
theorem depth_strs : ∀ a : List Str, PyData.depthAll (a.map .str) = 0
  | [] => by simp [PyData.depthAll]
  | x :: a => by rw [List.map_cons, PyData.depthAll, PyData.depth, depth_strs a]; rfl
theorem shaped_ints (a : List Int) : PySem.SeqAt.shaped (.list (a.map .int)) = true := by
  unfold PySem.SeqAt.shaped
  rw [PyData.canLay0, lay_ints, PyData.depth, depth_ints]; rfl
theorem shaped_strs {a : List Str} (h : ∀ x ∈ a, okS x) : PySem.SeqAt.shaped (.list (a.map .str)) = true := by
  unfold PySem.SeqAt.shaped
  rw [PyData.canLay0, lay_strs a h, PyData.depth, depth_strs]; rfl
theorem deq_dI (a b : List Int) : deq (dI a) (dI b) = some (decide (a = b)) := by
  have h1 : (dI a).toP = some (.list (a.map .int)) := toP_lst (toPs_map toP_int a)
  have h2 : (dI b).toP = some (.list (b.map .int)) := toP_lst (toPs_map toP_int b)
  show (match (dI a).toP, (dI b).toP with | some p, some q => if PySem.SeqAt.shaped p && PySem.SeqAt.shaped q then some (PyData.eqv p q) else none | _, _ => none) = _
  rw [h1, h2]
  simp only [shaped_ints, Bool.and_self, if_true]
  rw [PyData.eqv, eqvAll_ints]
theorem deq_dT {a b : List Str} (ha : ∀ x ∈ a, okS x) (hb : ∀ x ∈ b, okS x) : deq (dT a) (dT b) = some (decide (a = b)) := by
  have h1 : (dT a).toP = some (.list (a.map .str)) := toP_lst (toPs_map toP_str a)
  have h2 : (dT b).toP = some (.list (b.map .str)) := toP_lst (toPs_map toP_str b)
  show (match (dT a).toP, (dT b).toP with | some p, some q => if PySem.SeqAt.shaped p && PySem.SeqAt.shaped q then some (PyData.eqv p q) else none | _, _ => none) = _
  rw [h1, h2]
  simp only [shaped_strs ha, shaped_strs hb, Bool.and_self, if_true]
  rw [PyData.eqv, eqvAll_strs]
theorem gEq_dI (a b : List Int) : gEq (dI a) (dI b) = some (.bl (decide (a = b))) := by unfold gEq; rw [deq_dI]; rfl
theorem gNe_dI (a b : List Int) : gNe (dI a) (dI b) = some (.bl (!decide (a = b))) := by unfold gNe; rw [deq_dI]; rfl
theorem gEq_dT {a b : List Str} (ha : ∀ x ∈ a, okS x) (hb : ∀ x ∈ b, okS x) : gEq (dT a) (dT b) = some (.bl (decide (a = b))) := by unfold gEq; rw [deq_dT ha hb]; rfl
theorem gNe_dT {a b : List Str} (ha : ∀ x ∈ a, okS x) (hb : ∀ x ∈ b, okS x) : gNe (dT a) (dT b) = some (.bl (!decide (a = b))) := by unfold gNe; rw [deq_dT ha hb]; rfl
def Sg (s : Str) : Prop := ∃ c : Nat, s = ⟨#[c]⟩ ∧ 97 ≤ c ∧ c ≤ 122
theorem Sg.ok {s : Str} (h : Sg s) : okS s := by
  obtain ⟨c, rfl, _, h2⟩ := h
  unfold okS PyData.strOk
  simp
  omega
def Tx (t : List Str) : Prop := ∀ x ∈ t, Sg x
theorem Tx.ok {t : List Str} (h : Tx t) : ∀ x ∈ t, okS x := fun x hx => (h x hx).ok
theorem okNil : ∀ x ∈ ([] : List Str), okS x := fun _ h => by cases h
theorem Tx.take {t : List Str} (h : Tx t) (k : Nat) : Tx (t.take k) := fun x hx => h x (List.mem_of_mem_take hx)
theorem Tx.drop {t : List Str} (h : Tx t) (k : Nat) : Tx (t.drop k) := fun x hx => h x (List.mem_of_mem_drop hx)
theorem Tx.append {t u : List Str} (h : Tx t) (h2 : Tx u) : Tx (t ++ u) := fun x hx => (List.mem_append.mp hx).elim (h x) (h2 x)
theorem Tx.set {t : List Str} (h : Tx t) {x : Str} (hx : Sg x) (k : Nat) : Tx (t.set k x) := fun y hy => by
  rcases List.mem_or_eq_of_mem_set hy with hy | rfl
  · exact h y hy
  · exact hx
end MV
namespace MV
open PySem (Str PyData)
abbrev dN (l : List Nat) : D := .lst (l.map fun k : Nat => D.int (k : Int))
theorem dN_dI (l : List Nat) : dN l = dI (l.map fun k : Nat => (k : Int)) := by
  show D.lst _ = D.lst _
  rw [List.map_map]; rfl
theorem cast_inj {a b : List Nat} : (a.map (fun k : Nat => (k : Int)) = b.map fun k : Nat => (k : Int)) ↔ a = b :=
  ⟨fun h => (List.map_inj_right (fun x y h => by omega)).mp h, fun h => by rw [h]⟩
theorem gEq_dN (a b : List Nat) : gEq (dN a) (dN b) = some (.bl (decide (a = b))) := by
  rw [dN_dI, dN_dI, gEq_dI]; simp only [cast_inj]
theorem gNe_dN (a b : List Nat) : gNe (dN a) (dN b) = some (.bl (!decide (a = b))) := by
  rw [dN_dI, dN_dI, gNe_dI]; simp only [cast_inj]
theorem rng0 (n : Nat) : rngD 0 n = (List.range n).map fun k : Nat => D.int (k : Int) := by
  unfold rngD; simp
theorem rngN (m n : Nat) : rngD (m : Int) n = (List.range' m n).map fun k : Nat => D.int (k : Int) := by
  unfold rngD
  rw [List.range'_eq_map_range, List.map_map]
  apply List.map_congr_left
  intro k _
  simp
theorem rngN_get {m n i : Nat} {d : D} (h : (rngD (m : Int) n)[i]? = some d) : i < n ∧ d = .int ((m + i : Nat) : Int) := by
  rw [rngN] at h
  rw [List.getElem?_map] at h
  by_cases hi : i < n
  · rw [List.getElem?_range' hi] at h
    simp at h; exact ⟨hi, by rw [← h]; congr 1⟩
  · rw [List.getElem?_eq_none (by simp; omega)] at h; cases h
theorem rng0_get {n i : Nat} {d : D} (h : (rngD 0 n)[i]? = some d) : i < n ∧ d = .int (i : Int) := by
  have := rngN_get (m := 0) (n := n) (i := i) (d := d) (by simpa using h)
  simpa using this
theorem small_of {i : Int} (h : -1000000 ≤ i) (h2 : i ≤ 1000000) : smallI i = true := decide_eq_true (by omega)
theorem lc_nat {is : List Nat} {tg : D → M Unit} {t : M Bool} {fe : M D} {e : PEnv} (p : Nat → Bool) (g : Nat → D) (l : List Nat) (hl : l.length ≤ LIM)
    (h : ∀ k ∈ l, ∃ e1 e2, tg (.int (k : Int)) e = .ok () e1 ∧ t e1 = .ok (p k) e2 ∧ (p k = true → ∃ e3, fe e2 = .ok (g k) e3 ∧ wipeE is e3 = e) ∧ (p k = false → wipeE is e2 = e)) :
    lcGo is tg t fe (l.map fun k : Nat => D.int (k : Int)) [] e = .ok ((l.filter p).map g) e := by
  have := lc_pure (φ := fun k : Nat => D.int (k : Int)) (p := p) (g := g) l [] (by simpa using hl) h
  simpa using this
theorem asInts_dI (l : List Int) : asInts (l.map .int) = some l := by
  induction l with
  | nil => rfl
  | cons a r ih => rw [List.map_cons, asInts, ih]; rfl
theorem gSum_dI (l : List Int) : gSum [dI l] = some (.int l.sum) := by
  show (asInts (l.map .int)).map _ = _
  rw [asInts_dI]; rfl
section
variable {α : Type} {a b c d x : α} {l : List α}
@[simp] theorem atI0 : L2.atI (a :: l) 0 = some a := by rw [show (0 : Int) = ((0 : Nat) : Int) from rfl, atI_eq]; rfl
@[simp] theorem atI1 : L2.atI (a :: b :: l) 1 = some b := by rw [show (1 : Int) = ((1 : Nat) : Int) from rfl, atI_eq]; rfl
@[simp] theorem atI2 : L2.atI (a :: b :: c :: l) 2 = some c := by rw [show (2 : Int) = ((2 : Nat) : Int) from rfl, atI_eq]; rfl
@[simp] theorem atI3 : L2.atI (a :: b :: c :: d :: l) 3 = some d := by rw [show (3 : Int) = ((3 : Nat) : Int) from rfl, atI_eq]; rfl
@[simp] theorem atI4 : L2.atI (a :: b :: c :: d :: x :: l) 4 = some x := by rw [show (4 : Int) = ((4 : Nat) : Int) from rfl, atI_eq]; rfl
end
theorem cutA_from1 {α : Type} (l : List α) (k : Nat) : cutA l (some ((k : Int) + 1)) none = l.drop (k + 1) := by
  rw [show ((k : Int) + 1) = ((k + 1 : Nat) : Int) by omega, cutA_from]
theorem cutA_mid2 {α : Type} (l : List α) (i j : Nat) : cutA l (some (i : Int)) (some ((i : Int) + (j : Int))) = (l.drop i).take j := by
  rw [show ((i : Int) + (j : Int)) = ((i + j : Nat) : Int) by omega, cutA_mid, show i + j - i = j by omega]
theorem gEq_nT {a : List Str} (ha : ∀ x ∈ a, okS x) : gEq (dT a) (.lst []) = some (.bl (decide (a = []))) := gEq_dT ha okNil
theorem gNe_nT {a : List Str} (ha : ∀ x ∈ a, okS x) : gNe (dT a) (.lst []) = some (.bl (!decide (a = []))) := gNe_dT ha okNil
@[simp] theorem gEq_nn : gEq (.lst []) (.lst []) = some (.bl true) := gEq_dN [] []
@[simp] theorem gNe_nn : gNe (.lst []) (.lst []) = some (.bl false) := gNe_dN [] []
@[simp] theorem filter_no {α : Type} (l : List α) : l.filter (fun _ => false) = [] := by induction l <;> simp_all
@[simp] theorem r_eIsi {T : String} {f : M D} {e : PEnv} : eIsi T f e = rb (f e) fun x e => lift (gIsi T x) e := (rfl)
section
variable {ds : List D} {i : Int} {k : Bool} {x : Str}
@[simp] theorem isi_list {ds : List D} : gIsi "list" (.lst ds) = some (.bl true) := (rfl)
@[simp] theorem isi_int {i : Int} : gIsi "int" (.int i) = some (.bl true) := (rfl)
@[simp] theorem isi_boolI {i : Int} : gIsi "bool" (.int i) = some (.bl false) := (rfl)
@[simp] theorem isi_boolB {b : Bool} : gIsi "bool" (.bl b) = some (.bl true) := (rfl)
@[simp] theorem isi_tup {ds : List D} : gIsi "tuple" (.tup ds) = some (.bl true) := (rfl)
@[simp] theorem isi_str {x : Str} : gIsi "str" (.str x) = some (.bl true) := (rfl)
end
theorem hsz0 : (0 : Nat) ≤ PySem.sizeLine := Nat.zero_le _
@[simp] theorem r_eSlQ {i : Nat} {lo hi : M (Option Int)} {e : PEnv} : eSlQ i lo hi e = ro (lstO (e[i]?)) fun _ => rb (lo e) fun l e => rb (hi e) fun h e => ro (lstO (e[i]?)) fun ds => if ds.all D.sc then .ok (.lst (cutA ds l h)) e else .stuck := by
  unfold eSlQ
  show _ = ro (lstAt i e) _
  cases lstAt i e with
  | none => rfl
  | some ds =>
    show rb (lo e) _ = _
    simp only [ro_some]
    congr 1; funext l e
    show rb (hi e) _ = _
    congr 1; funext h e
    show _ = ro (lstAt i e) _
    cases lstAt i e with
    | none => rfl
    | some ds => rfl
theorem cutA_len {α : Type} (l : List α) (lo hi : Option Int) : (cutA l lo hi).length ≤ l.length := by
  unfold cutA; rw [List.length_take, List.length_drop]; omega
end MV
namespace MV
open PySem PySem.Spec PyProof.Rows L2
def tru : D → Option Bool
  | .non => some false
  | .bl b => some b
  | .int i => some (i != 0)
  | .lst ds => some (!ds.isEmpty)
  | .tup ds => some (!ds.isEmpty)
  | _ => none
theorem rpl_empty {K : PySem.W.Frag} {x : Bool} {G : Hp} {xs : List V} {ds : List D} (r : RpL K x G xs ds) : (!ds.isEmpty) = !xs.isEmpty := by cases r <;> rfl
theorem tru_rp {K : PySem.W.Frag} {G H : Hp} {v : V} {d : D} {k : Bool} (e : Ex G H) (h : Rp K true G v d) (q : tru d = some k) : TruV K v H k := by
  cases h with
  | sc z => cases d <;> cases z <;> cases q <;> rfl
  | lst s r => cases q; exact .inl ⟨_, ex_sql e s.any, rpl_empty r⟩
  | tup s r => cases q; exact .inr (.inl ⟨_, ex_sqt e s.any, rpl_empty r⟩)
  | dic => cases q
  | dit => cases q
  | exc => cases q
section
variable {X : Cx} {cf : Cf} {W : WX} {c : Cls} {n n1 n2 : Bool}
theorem SE.nn {e : Expr} {te : TE} {f : M D} (h : SE X cf W c n e te f) : SE X cf W c false e te f := ⟨h.p, fun R Hs env σ H F wf r Q => by
  have h := h.s R Hs env σ H F wf r Q
  cases q : f env with
  | ok d env' => rw [q] at h; exact fun k => h fun v Hs' H' s r' p nr => k v Hs' H' s r' p fun z => by cases z
  | ex x env' => rw [q] at h; exact h
  | stuck => trivial⟩
def tOrT (K : PySem.W.Frag) (ta tb : TE) : TE := fun σ H Q => ta σ H fun x H1 => ∃ k, TruV K x H1 k ∧ if k = true then Q x H1 else tb σ H1 Q
theorem pe_orT {a b : Expr} {rest : List Expr} {ta tb : TE} {pos : Pos} (ha : PE X a ta) (hb : PE X (.BoolOp .Or (b :: rest) pos) tb) : PE X (.BoolOp .Or (a :: b :: rest) pos) (tOrT X.K ta tb) := by
  refine ⟨fun pins s σ H Q I h => ?_⟩
  refine BoolOp_or (thn (ha.run pins s σ H _ I h) fun v s1 ⟨x, H1, I1, r1, q1⟩ => ?_)
  obtain ⟨k, e1, q1⟩ := q1
  refine thn (tru_ok pins s1 σ H1 x v (fun c H2 => c = k ∧ H2 = H1) I1 r1 ⟨k, e1, rfl, rfl⟩) fun c s2 ⟨H2, I2, q2⟩ => ?_
  obtain ⟨rfl, rfl⟩ := q2
  cases c with
  | false => exact hb.run pins s2 σ H2 Q I2 q1
  | true => exact ⟨x, H2, I2, r1, q1⟩
def eOrT (a b : M D) : M D := bnd a fun x => bnd (lift (tru x)) fun k => if k then ret x else b
theorem sd_orT {ta tb : TE} {fa fb : M D} (ha : Sd cf W c n ta fa) (hb : Sd cf W c n tb fb) : Sd cf W c n (tOrT cf.K ta tb) (eOrT fa fb) := by
  refine Sd.mk (fun R Hs env σ H F wf r d env' q Q k => ?_) (fun R Hs env σ H F wf r x env' q Q k => ?_)
  · obtain ⟨d1, env1, q1, q⟩ := bnd_ok q
    obtain ⟨b, env2, q2, q⟩ := bnd_ok q
    obtain ⟨qb, rfl⟩ := lift_ok q2
    refine ha.ok r q1 fun v Hs1 H1 s1 r1 p1 nr1 => ⟨b, tru_rp (rg_sub r1.exs) p1 qb, ?_⟩
    cases b with
    | false => exact hb.ok r1 q fun v2 Hs2 H2 s2 r2 p2 nr => k v2 Hs2 H2 (s1.trans s2) r2 (p2.mono (rg_start s1.dom)) fun z hf => (nr z hf).mono (rg_start (c := .V) (H0 := R.H0) (H := H2) (wf := wf) s1.dom)
    | true => cases q; exact k _ Hs1 H1 s1 r1 p1 nr1
  · rcases bnd_ex q with q | ⟨d1, env1, q1, q⟩
    · exact ha.exn r q k
    · rcases bnd_ex q with q | ⟨b, env2, q2, q⟩
      · exact (lift_ex q).elim
      · obtain ⟨qb, rfl⟩ := lift_ok q2
        refine ha.ok r q1 fun v Hs1 H1 s1 r1 p1 _ => ⟨b, tru_rp (rg_sub r1.exs) p1 qb, ?_⟩
        cases b with
        | false => exact hb.exn r1 q fun Hs2 H2 s2 r2 => k Hs2 H2 (s1.trans s2) r2
        | true => cases q
theorem se_orT {a b : Expr} {rest : List Expr} {ta tb : TE} {fa fb : M D} {pos : Pos} (hK : cf.K = X.K) (h : SE X cf W c n a ta fa) (h2 : SE X cf W c n (.BoolOp .Or (b :: rest) pos) tb fb) : SE X cf W c n (.BoolOp .Or (a :: b :: rest) pos) (tOrT cf.K ta tb) (eOrT fa fb) := ⟨hK ▸ pe_orT h.p h2.p, sd_orT h.s h2.s⟩
def tTr (f : M D) : M Bool := bnd f fun d => lift (tru d)
def tTru (K : PySem.W.Frag) (ta : TE) : TT := fun σ H Q => ta σ H fun x H' => ∃ k, TruV K x H' k ∧ Q k H'
theorem sdt_tru {te : TE} {f : M D} (h : Sd cf W c n te f) : SdT cf W (tTru cf.K te) (tTr f) := by
  refine SdT.mk (fun R Hs env σ H F wf r d env' q Q k => ?_) (fun R Hs env σ H F wf r x env' q Q k => ?_)
  · obtain ⟨d1, env1, q1, q⟩ := bnd_ok q
    obtain ⟨qg, rfl⟩ := lift_ok q
    exact h.ok r q1 fun v Hs1 H1 s1 r1 p1 _ => ⟨d, tru_rp (rg_sub r1.exs) p1 qg, k Hs1 H1 s1 r1⟩
  · rcases bnd_ex q with q | ⟨d1, env1, q1, q⟩
    · exact h.exn r q k
    · exact (lift_ex q).elim
theorem st_tru {e : Expr} {te : TE} {f : M D} (hK : cf.K = X.K) (h : SE X cf W c n e te f) (he : ∀ whole, isTrue e X.env whole = (do let v ← whole; standAt e.pos; holding [v] (truthy v)) := by intro _; rfl) : ST X cf W e (tTru cf.K te) (tTr f) := ⟨hK ▸ pt_truth h.p he, sdt_tru h.s⟩
end
section
variable {e : PEnv} {fa fb : M D} {b : Bool} {i : Int} {ds : List D}
@[simp] theorem tru_b : tru (.bl b) = some b := (rfl)
@[simp] theorem tru_i : tru (.int i) = some (i != 0) := (rfl)
@[simp] theorem tru_l : tru (.lst ds) = some (!ds.isEmpty) := (rfl)
@[simp] theorem tru_t : tru (.tup ds) = some (!ds.isEmpty) := (rfl)
@[simp] theorem tru_n : tru .non = some false := (rfl)
@[simp] theorem r_tTr : tTr fa e = rb (fa e) fun x e => lift (tru x) e := (rfl)
@[simp] theorem r_eOrT : eOrT fa fb e = rb (fa e) fun x e => rb (lift (tru x) e) fun k e => if k then .ok x e else fb e := by
  show rb (fa e) _ = _
  congr 1; funext x e
  show rb _ _ = _
  congr 1; funext k e; cases k <;> rfl
end
theorem for_fold {σ α : Type} {tg : D → M Unit} {b : M Fl} {φ : α → D} (R : σ → PEnv → Prop) (f : σ → α → σ) : ∀ (l : List α) (s : σ) (e : PEnv), R s e →
    (∀ s x e, x ∈ l → R s e → ∃ e1 e2 fl, tg (φ x) e = .ok () e1 ∧ b e1 = .ok fl e2 ∧ (fl = .nx ∨ fl = .ct) ∧ R (f s x) e2) →
    ∃ e', sForL tg b (l.map φ) e = .ok .nx e' ∧ R (l.foldl f s) e'
  | [], s, e, h0, _ => ⟨e, rfl, h0⟩
  | x :: l, s, e, h0, hs => by
    obtain ⟨e1, e2, fl, h1, h2, h3, h4⟩ := hs s x e List.mem_cons_self h0
    obtain ⟨e', h5, h6⟩ := for_fold R f l (f s x) e2 h4 fun s y e hy => hs s y e (List.mem_cons_of_mem _ hy)
    refine ⟨e', ?_, h6⟩
    rw [List.map_cons, sForL, bnd_of_ok h1, bnd_of_ok h2]
    rcases h3 with rfl | rfl <;> exact h5
end MV
namespace MV
open PySem PySem.Spec PyProof.Rows L2
def gLR1 : D → Option D
  | .int j => if smallI j && decide (j.toNat ≤ LIM) then some (.lst (rngD 0 j.toNat)) else none
  | _ => none
def gLR2 : D → D → Option D
  | .int i, .int j => if smallI i && smallI j && decide ((j - i).toNat ≤ LIM) then some (.lst (rngD i (j - i).toNat)) else none
  | _, _ => none
section
variable {X : Cx} {cf : Cf} {W : WX} {c : Cls} {n n1 n2 : Bool}
end
section
variable {i j : Int}
@[simp] theorem gLR1_i : gLR1 (.int j) = if smallI j && decide (j.toNat ≤ LIM) then some (.lst (rngD 0 j.toNat)) else none := (rfl)
@[simp] theorem gLR2_i : gLR2 (.int i) (.int j) = if smallI i && smallI j && decide ((j - i).toNat ≤ LIM) then some (.lst (rngD i (j - i).toNat)) else none := (rfl)
end
end MV
namespace MV
open PySem PySem.Spec PyProof.Rows L2
def SndM (K : PySem.W.Frag) (n : Bool) (T : String) (r : V → List V → Hp → VK → Prop) (g : D → List D → Option D) : Prop := ∀ (G H : Hp) (x : V) (xs : List V) (d1 : D) (ds : List D) (d : D), Ex G H → Rp K true G x d1 → RpL K true G xs ds → g d1 ds = some d → ∀ Q : VK, (∀ v H', Ex H H' → Rp K true (grow G H H') v d → Nn K n H H' v d → Q v H') → r x xs H Q
def tyD : D → String
  | .lst _ => "list"
  | .str _ => "str"
  | _ => ""
def eM (T : String) (g : D → List D → Option D) (fo : M D) (fa : M (List D)) : M D := bnd fo fun x => if tyD x == T then bnd fa fun xs => lift (g x xs) else fail
theorem tyD_ok {K : PySem.W.Frag} {G H : Hp} {x : V} {d : D} {T : String} (e : Ex G H) (h : Rp K true G x d) (q : (tyD d == T) = true) (hT : T = "list" ∨ T = "str") : tyV K T x H := by
  have q := beq_iff_eq.mp q
  subst q
  cases d with
  | lst ds =>
    obtain ⟨a, xs, rfl, s1, r1⟩ := h.lst_inv
    exact .inl ⟨rfl, xs, ex_sql e s1.any⟩
  | str z => rw [h.str_inv]; exact (rfl : "str" = "str")
  | _ =>
    rcases hT with h | h
    · exact absurd h (show ¬ (("" : String) = "list") by decide)
    · exact absurd h (show ¬ (("" : String) = "str") by decide)
section
variable {X : Cx} {cf : Cf} {W : WX} {c : Cls} {n n1 n2 : Bool}
theorem sd_bm {T : String} {r : V → List V → Hp → VK → Prop} {g : D → List D → Option D} {to : TE} {ta : TA} {fo : M D} {fa : M (List D)} (hT : T = "list" ∨ T = "str") (hs : SndM cf.K n T r g) (ho : Sd cf W c n1 to fo) (ha : SdA cf W c ta fa) : Sd cf W c n (tBM cf.K T r to ta) (eM T g fo fa) := by
  refine Sd.mk (fun R Hs env σ H F wf r d env' q Q k => ?_) (fun R Hs env σ H F wf r x env' q Q k => ?_)
  · obtain ⟨d1, env1, q1, q⟩ := bnd_ok q
    cases z : tyD d1 == T with
    | false => rw [z] at q; cases q
    | true =>
      rw [z] at q
      obtain ⟨d2, env2, q2, q⟩ := bnd_ok q
      obtain ⟨qg, rfl⟩ := lift_ok q
      exact ho.ok r q1 fun v Hs1 H1 s1 r1 p1 _ => ⟨tyD_ok (rg_sub r1.exs) p1 z hT, ha.ok r1 q2 fun v2 Hs2 H2 s2 r2 p2 =>
        hs (rg c R.H0 Hs2 H H2 wf) H2 v v2 d1 d2 d (rg_sub r2.exs) (p1.mono (rg_step s2)) (p2.mono (rg_start s1.dom)) qg Q fun v3 H3 x p nn => fin_op (s1.trans s2) r2 x p nn k⟩
  · rcases bnd_ex q with q | ⟨d1, env1, q1, q⟩
    · exact ho.exn r q k
    · cases z : tyD d1 == T with
      | false => rw [z] at q; cases q
      | true =>
        rw [z] at q
        rcases bnd_ex q with q | ⟨d2, env2, q2, q⟩
        · exact ho.ok r q1 fun v Hs1 H1 s1 r1 p1 _ => ⟨tyD_ok (rg_sub r1.exs) p1 z hT, ha.exn r1 q fun Hs2 H2 s2 r2 => k Hs2 H2 (s1.trans s2) r2⟩
        · exact (lift_ex q).elim
end
def eqD (z y : D) : Bool := match z.toV, y.toV with
  | some a, some b => eqV a b
  | _, _ => false
def gIndex : D → List D → Option D
  | .lst ds, [y] => if y.sc && ds.all D.sc then (ds.findIdx? fun z => eqD z y).map fun j => .int (j : Nat) else none
  | _, _ => none
theorem scM {T : String} {g : D → List D → Option D} {fo : M D} {fa : M (List D)} (h : ∀ x xs d, g x xs = some d → d.sc = true) : ScF (eM T g fo fa) := fun env d env' q => by
  obtain ⟨d1, env1, q1, q⟩ := bnd_ok q
  cases z : tyD d1 == T with
  | false => rw [z] at q; cases q
  | true =>
    rw [z] at q
    obtain ⟨d2, env2, q2, q⟩ := bnd_ok q
    obtain ⟨qg, _⟩ := lift_ok q
    exact h _ _ _ qg
section
variable {X : Cx} {cf : Cf} {W : WX} {c : Cls} {n n1 n2 : Bool}
end
section
variable {e : PEnv} {fo : M D} {fa : M (List D)} {T : String} {g : D → List D → Option D} {ds : List D} {y : D}
@[simp] theorem r_eM : eM T g fo fa e = rb (fo e) fun x e => if tyD x == T then rb (fa e) fun xs e => lift (g x xs) e else .stuck := by
  show rb (fo e) _ = _
  congr 1; funext x e; cases tyD x == T <;> rfl
@[simp] theorem tyD_l : tyD (.lst ds) = "list" := (rfl)
@[simp] theorem gIndex_l : gIndex (.lst ds) [y] = if y.sc && ds.all D.sc then (ds.findIdx? fun z => eqD z y).map fun j => .int (j : Nat) else none := (rfl)
end
end MV
namespace MV
open PySem PySem.Spec PyProof.Rows L2
section
variable {K : PySem.W.Frag} {T H H' : Hp}
def NL (T : Hp) : Prop := ∀ a xs, T a ≠ some (.lst xs)
theorem nl_th {G : Hp} : NL (TH G) := fun a xs h => by obtain ⟨_, e, _⟩ := th_some h; cases e
theorem Own.emp_lst (hT : NL T) {F : List Addr} {v : V} {ds : List D} (h : Own K T H F v (.lst ds)) : ∃ p F' xs, v = .ref p ∧ F = p :: F' ∧ H p = some (.lst xs) ∧ OwnL K T H F' xs ds := by
  cases h with
  | leaf h => obtain ⟨a, xs, _, h, _⟩ := h.lst_inv; exact (hT a xs h).elim
  | lst h r => exact ⟨_, _, _, rfl, rfl, h, r⟩
theorem Own.off {p : Addr} {o : HO} {F : List Addr} {v : V} {d : D} (h : Own K T H F v d) (hp : p ∉ F) : Own K T (upd H p o) F v d := h.keep (Ex.refl _) fun a m u e => by
  rw [upd_ne (fun z => hp (by rw [← z]; exact m))]; exact e
theorem OwnL.within (hT : NL T) : ∀ {F : List Addr} {xs : List V} {ds : List D}, OwnL K T H F xs ds → F.Nodup → ∀ (j : Nat) (es : List D), ds[j]? = some (.lst es) →
    ∃ q ys Fq, xs[j]? = some (.ref q) ∧ H q = some (.lst ys) ∧ q ∈ F ∧ OwnL K T H Fq ys es ∧ ∀ ys' es', (∀ H', (∀ a ∈ Fq, H' a = H a) → OwnL K T H' Fq ys' es') → OwnL K T (upd H q (.lst ys')) F xs (ds.set j (.lst es'))
  | _, _, _, .nil, _, j, es, h => by cases h
  | _, v :: vs, d :: ds, .cons (F := F1) (F' := F2) h r, nd, 0, es, hd => by
    cases Option.some.inj hd
    obtain ⟨q, Fq, ys, rfl, rfl, hq, ro⟩ := h.emp_lst hT
    have nd' := List.nodup_append.mp nd
    have nq : q ∉ Fq := (List.nodup_cons.mp nd'.1).1
    refine ⟨q, ys, Fq, rfl, hq, List.mem_append_left _ List.mem_cons_self, ro, fun ys' es' hn => ?_⟩
    exact .cons (.lst upd_same (hn _ fun a m => upd_ne (fun z => nq (by rw [← z]; exact m)))) (r.off fun m => nd'.2.2 q List.mem_cons_self q m rfl)
  | _, v :: vs, d :: ds, .cons (F := F1) (F' := F2) h r, nd, j + 1, es, hd => by
    have nd' := List.nodup_append.mp nd
    obtain ⟨q, ys, Fq, h1, h2, h3, h4, h5⟩ := OwnL.within hT r nd'.2.1 j es hd
    refine ⟨q, ys, Fq, h1, h2, List.mem_append_right _ h3, h4, fun ys' es' hn => ?_⟩
    exact .cons (h.off fun m => nd'.2.2 q m q h3 rfl) (h5 ys' es' hn)
end
section
variable {X : Cx} {cf : Cf} {W : WX} {c : Cls} {n n1 n2 : Bool}
theorem se_vP (i : Nat) {e : Expr} (p : PE X e (tVar i)) (hk : cf.kd i = .P) : SE X cf W .L false e (tVar i) (eV i) := ⟨p, sd_var fun R Hs env σ H F wf r v d h => by
  rw [hk] at h
  exact Own.rp (th_sub.trans r.nL) h (r.mL (by rw [hk]; exact fun z => by cases z))⟩
def linL : List D → Bool
  | [] => true
  | d :: ds => if d.sc then linL ds else (match d with | .lst es => es.all D.sc | _ => false) && ds.all D.sc
def lin : D → Bool
  | .lst ds => ds.all D.sc
  | .tup ds => linL ds
  | d => d.sc
def sSetP (i : Nat) (f : M D) : M Fl := bnd f fun d => bnd (lift (if lin d then some d else none)) fun d => fun e => .ok .nx (e.set i (some d))
end
section
variable {e : PEnv} {fi f : M D} {i : Nat} {ds es : List D}
@[simp] theorem r_sSetP : sSetP i f e = rb (f e) fun d e => if lin d then .ok .nx (e.set i (some d)) else .stuck := by
  show rb (f e) _ = _
  congr 1; funext d e; cases h : lin d <;> simp [h]
end
end MV
namespace MV
open PySem PySem.Spec PyProof.Rows L2
def eCallQ (F : List D → FR) (i : Nat) (a : M (List D)) : M D := fun e => match e[i]? with
  | some (some d0) => bnd a (fun ds => frD (F (d0 :: ds))) e
  | _ => .stuck
def eIxQ (i : Nat) (f : M D) : M D := fun e => match lstAt i e with
  | none => .stuck
  | some ds => bnd f (fun k => match k with
    | .int z => lift ((atI ds z).bind fun d => if d.sc then some d else none)
    | _ => fail) e
def eLenQ (i : Nat) : M D := fun e => match lstAt i e with
  | some ds => .ok (.int ds.length) e
  | none => .stuck
section
variable {X : Cx} {cf : Cf} {W : WX} {c : Cls} {n n1 n2 : Bool}
theorem sd_callQ {F : List D → FR} {m i : Nat} {ta : TA} {fa : M (List D)} (hk : cf.kd i = .Q) (h : SdA cf W .B ta fa) (hm : ∀ ds env env', fa env = .ok ds env' → ds.length + 1 = m) : Sd cf W .V true (tCallS (spQ cf.K cf.cv m F) (WE W) (tCons (tVar i) ta)) (eCallQ F i fa) := by
  have hnw : cf.kd i ≠ .W := by rw [hk]; exact fun z => by cases z
  refine Sd.mk (fun R Hs env σ H F0 wf r d env' q Q k => ?_) (fun R Hs env σ H F0 wf r x env' q Q k => ?_)
  · unfold eCallQ at q
    split at q
    · rename_i d0 q0
      obtain ⟨v, hv, _⟩ := r.slot i d0 q0
      refine ⟨v, hv, ?_⟩
      obtain ⟨ds, env1, q1, q2⟩ := bnd_ok q
      refine h.ok r q1 fun vs Hs1 H1 s1 r1 p1 => ?_
      have e1 : env1[i]? = some (some d0) := by rw [s1.kp i hnw]; exact q0
      obtain ⟨v1, hv1, hs1⟩ := r1.slot i d0 e1
      have ev : v1 = v := by rw [hv1] at hv; cases hv; rfl
      subst ev
      rw [hk] at hs1
      refine ⟨by rw [List.length_cons, p1.length]; exact hm _ _ _ q1, v1, vs, d0, ds, rfl, Rp.mono r1.exs hs1, p1.mono (rm_sub _ _), ?_⟩
      cases qf : F (d0 :: ds) with
      | ok d' io =>
        rw [qf] at q2
        cases q2
        intro v H' x pv
        have pv' : Rp cf.K true (rs (grow Hs1 H1 H') H) v d := pv.mono (nw_rs s1.dom)
        exact k v (grow Hs1 H1 H') H' (s1.trans (Stp.grow r1.exs x)) (r1.grow x) pv' fun _ _ => pv'
      | ex x io => rw [qf] at q2; cases q2
      | stuck => rw [qf] at q2; cases q2
    · cases q
  · unfold eCallQ at q
    split at q
    · rename_i d0 q0
      obtain ⟨v, hv, _⟩ := r.slot i d0 q0
      refine ⟨v, hv, ?_⟩
      rcases bnd_ex q with q | ⟨ds, env1, q1, q2⟩
      · exact h.exn r q k
      · refine h.ok r q1 fun vs Hs1 H1 s1 r1 p1 => ?_
        have e1 : env1[i]? = some (some d0) := by rw [s1.kp i hnw]; exact q0
        obtain ⟨v1, hv1, hs1⟩ := r1.slot i d0 e1
        have ev : v1 = v := by rw [hv1] at hv; cases hv; rfl
        subst ev
        rw [hk] at hs1
        refine ⟨by rw [List.length_cons, p1.length]; exact hm _ _ _ q1, v1, vs, d0, ds, rfl, Rp.mono r1.exs hs1, p1.mono (rm_sub _ _), ?_⟩
        cases qf : F (d0 :: ds) with
        | ok d' io => rw [qf] at q2; cases q2
        | ex x' io =>
          rw [qf] at q2
          cases q2
          intro H' x
          exact k (grow Hs1 H1 H') H' (s1.trans (Stp.grow r1.exs x)) (r1.grow x)
        | stuck => rw [qf] at q2; cases q2
    · cases q
theorem se_callQ {F : List D → FR} {m k i : Nat} {f : Addr} {fd : FuncData} {ps : List Str} {x : Str} {e : Expr} {es : List Expr} {ta : TA} {fa : M (List D)} {p pos : Pos} (hK : cf.K = X.K) (tk : L2N.Takes X W) (G : FnOk X.prog X.w X.K X.mg X.base (L2N.CX X.prog X.w) k f fd ps (spQ X.K cf.cv m F)) (hr : Room k X.A) (hg : Gl X x) (hm : X.mg x = some (.ref f)) (hkp : PySem.W.keepIn X.K (.ref f) = true) (hb : Binds X.K fd ps []) (hk : cf.kd i = .Q) (pe : PE X e (tVar i)) (ha : SA X cf W .B es ta fa) (hl : ∀ ds env env', fa env = .ok ds env' → ds.length + 1 = m)
    (hdb : (x == ("__debug__" : Str)) = false := by decide) (he : starEach (e :: es) X.env = (false, eval e X.env) :: starEach es X.env := by rfl) (hpl : (backTo pos (starEach es X.env)).any (·.1) = false := by rfl) :
    SE X cf W .V true (.Call (.Name x p) (e :: es) [] pos) (tCallS (spQ cf.K cf.cv m F) (WE W) (tCons (tVar i) ta)) (eCallQ F i fa) := by
  refine ⟨?_, sd_callQ hk ha.s hl⟩
  rw [hK]
  exact pe_callS G hr hg hm hkp hb (fun σ => L2N.passAt tk σ) (pa_cons pe ha.p he) hdb he hpl
theorem se_ixQ {i : Nat} {o ix : Expr} {ti : TE} {f : M D} {pos : Pos} (hK : cf.K = X.K) (po : PE X o (tVar i)) (hk : cf.kd i = .Q) (h : SE X cf W c n ix ti f) (hs : PlainIx ix) : SE X cf W .V true (.Subscript o ix pos) (tOp (rIx cf.K) (tVar i) ti) (eIxQ i f) := by
  have hnw : cf.kd i ≠ .W := by rw [hk]; exact fun z => by cases z
  rw [hK]
  refine ⟨pe_ix ix_seq po h.p hs, Sd.mk (fun R Hs env σ H F wf r d env' q Q k => ?_) (fun R Hs env σ H F wf r x env' q Q k => ?_)⟩
  · unfold eIxQ at q
    cases q0 : lstAt i env with
    | none => simp only [q0] at q; cases q
    | some ds =>
      simp only [q0] at q
      obtain ⟨p0, xs0, a1, a2, a3⟩ := q_list r hk q0
      refine ⟨.ref p0, a1, ?_⟩
      obtain ⟨kd, env1, q1, q2⟩ := bnd_ok q
      refine h.s.ok r q1 fun v Hs1 H1 s1 r1 p1 _ => ?_
      have q3 : lstAt i env1 = some ds := by
        unfold lstAt at q0 ⊢; rw [s1.kp i hnw]; exact q0
      obtain ⟨p, xs, h1, h2, h3⟩ := q_list r1 hk q3
      have ep : p = p0 := by rw [h1] at a1; cases a1; rfl
      subst ep
      cases kd with
      | int z =>
        obtain ⟨qg, rfl⟩ := lift_ok q2
        cases qa : atI ds z with
        | none => rw [qa] at qg; cases qg
        | some d' =>
          rw [qa] at qg
          have qg : (if d'.sc then some d' else none) = some d := qg
          split at qg
          · rename_i hsc
            cases qg
            obtain ⟨w, hw, hr⟩ := atI_rp h3 qa
            exact .inl ⟨p, xs, z, w, rfl, p1.int_inv, by rw [← hK]; exact h2, hw, k w Hs1 H1 s1 r1 (hr.sc_any hsc _ _) fun _ _ => hr.sc_any hsc _ _⟩
          · cases qg
      | _ => cases q2
  · unfold eIxQ at q
    cases q0 : lstAt i env with
    | none => simp only [q0] at q; cases q
    | some ds0 =>
      simp only [q0] at q
      obtain ⟨p0, xs0, a1, a2, a3⟩ := q_list r hk q0
      refine ⟨.ref p0, a1, ?_⟩
      rcases bnd_ex q with q | ⟨kd, env1, q1, q2⟩
      · exact h.s.exn r q k
      · cases kd with
        | int z => exact (lift_ex q2).elim
        | _ => cases q2
theorem se_lenQ {i : Nat} {o : Expr} {p pos : Pos} (hK : cf.K = X.K) (hm : X.mg "len" = none) (po : PE X o (tVar i)) (hk : cf.kd i = .Q) (hg : Gl X "len" := by rfl) (he : starEach [o] X.env = (false, eval o X.env) :: starEach [] X.env := by rfl) (hpl : (backTo pos (starEach [] X.env)).any (·.1) = false := by rfl) :
    SE X cf W .V true (.Call (.Name "len" p) [o] [] pos) (tCB (fun xs H Q => ∃ x n, xs = [x] ∧ LenV cf.K x H n ∧ Q (.int n) H) (tCons (tVar i) tNil)) (eLenQ i) := by
  rw [hK]
  refine ⟨pe_callB call_len hg hm PySem.boot_len (pa_cons po pa_nil he) (by decide) (by decide) he hpl, Sd.mk (fun R Hs env σ H F wf r d env' q Q k => ?_) (fun R Hs env σ H F wf r x env' q Q k => ?_)⟩
  · unfold eLenQ at q
    split at q
    · rename_i ds q0
      cases q
      obtain ⟨p0, xs0, a1, a2, a3⟩ := q_list r hk q0
      refine ⟨.ref p0, a1, .ref p0, xs0.length, rfl, .inl ⟨xs0, by rw [← hK]; exact a2, rfl⟩, ?_⟩
      rw [a3.length]
      exact k _ Hs H Stp.refl r (.int _) fun _ _ => .int _
    · cases q
  · unfold eLenQ at q
    split at q <;> cases q
end
section
variable {P : Program} {w : World} {K : PySem.W.Frag} {mg : Str → Option Value} {base : Heap}
theorem fn_Q {x qual : Str} {st : Stmt} {f : Addr} {fd : FuncData} (N ps : List Str) (mN mP : Nat) {k : Nat} (cf : Cf) (g : M Fl) (hN : N.length = mN) (hP : ps.length = mP) (F : Fun K x qual st f fd) (S : FnScope N ps (defScope st)) (hK : cf.K = K) (h0 : cf.kd 0 = .Q) (hk : ∀ i, 0 < i → i < ps.length → cf.kd i = .S)
    (hbody : ∀ (cdv : Value) (A : Around) (outer : List Env) (s : Shared) (H : Hp) (E : XK), Room k (A.deeper (envOfC qual (defScope st) s.heap.objs.size f cdv)) → L2N.Takes (cxOf (L2N.CX P w) P w K mg base N qual (defScope st) f cdv A outer s H E) (fun cls d _ H => E cls d H) →
      PassesOwn (model P w) (A.deeper (envOfC qual (defScope st) s.heap.objs.size f cdv)) (envOfC qual (defScope st) s.heap.objs.size f cdv) (cxOf (L2N.CX P w) P w K mg base N qual (defScope st) f cdv A outer s H E).xe →
      SSs (cxOf (L2N.CX P w) P w K mg base N qual (defScope st) f cdv A outer s H E) cf (fun cls d _ H => E cls d H) (defBody st) g) :
    FnOk P w K mg base (L2N.CX P w) (k + 1) f fd ps (spQ K cf.cv mP (runF mN g)) := by
  subst hN hP
  refine okN F S (fun vs H Q E h => h.1) (fun cdv A outer s H vs Q E hr h => ?_)
  obtain ⟨hl, v0, vs', d0, ds, rfl, hd0, hd, h⟩ := h
  obtain ⟨t, p, sd⟩ := hbody cdv A outer s H E hr (L2N.takes_of rfl rfl rfl rfl) (passes_of rfl)
  refine ⟨t, p, ?_⟩
  have r : Rel cf ⟨H, none⟩ H (envOf N.length (d0 :: ds)) (L2.start N (v0 :: vs')) H (fun _ => []) [] :=
    { len := env_len (by rw [List.length_cons, List.length_cons, hd.length])
      exs := Ex.refl _
      ex0 := fun a o h _ => h
      dom0 := fun a h => h
      slot := fun i d q => by
        have q := envOf_get q
        cases i with
        | zero =>
          have q : d0 = d := by simpa using q
          subst q
          refine ⟨v0, start_get rfl, ?_⟩
          rw [h0, hK]
          exact hd0
        | succ i =>
          have q : ds[i]? = some d := by simpa using q
          obtain ⟨v, h1, h2⟩ := hd.get q
          refine ⟨v, start_get (by simpa using h1), ?_⟩
          rw [hk (i + 1) (by omega) (by rw [← hl, List.length_cons, hd.length]; have := (List.getElem?_eq_some_iff.mp q).1; omega), hK]
          exact h2
      nod := fun _ => List.nodup_nil
      dis := fun _ _ _ _ m => by cases m
      fdom := fun _ _ m => by cases m
      uns := fun _ _ m => by cases m
      new := fun _ _ m => by cases m
      volw := fun _ _ _ m => by cases m
      volb := fun _ _ _ m => by cases m
      wdom := fun _ m => by cases m
      ior := fun p h => by cases h }
  refine sd _ _ _ _ _ _ _ r _ ?_
  unfold runF at h
  have exH : ∀ {Hs' H' : Hp} {env' : PEnv} {σ' : L2.St} {F' : Nat → List Addr} {wf' : List Addr}, Rel cf ⟨H, none⟩ Hs' env' σ' H' F' wf' → Ex H H' := fun r' a o ha => r'.exs a o (r'.ex0 a o ha (fun z => by cases z))
  cases q : g (envOf N.length (d0 :: ds)) with
  | stuck => rw [q] at h; exact h.elim
  | ex c e =>
    rw [q] at h
    exact fun Hs' σ' H' F' wf' _ r' => h H' (exH r')
  | ok fl e =>
    rw [q] at h
    cases fl with
    | nx => exact fun Hs' σ' H' F' wf' _ r' => h .non H' (exH r') .non
    | rt d => exact fun v Hs' σ' H' F' wf' _ r' pv => h v H' (exH r') (by
        rw [← hK]
        exact pv.mono fun a o ha => by
          have ha : rs (rm H' wf') H a = some o := ha
          cases z : H a with
          | none => rw [rs_none z] at ha; rw [nw_none z]; exact rm_sub _ _ a o ha
          | some u => rw [rs_some z] at ha; cases ha)
    | bk => exact h.elim
    | ct => exact h.elim
end
section
variable {e : PEnv} {f : M D} {i : Nat} {r : M (List D)}
def someO (o : Option (Option D)) : Option D := match o with
  | some (some d) => some d
  | _ => none
@[simp] theorem someO_some {d : D} : someO (some (some d)) = some d := (rfl)
@[simp] theorem r_eCallQ {F : List D → FR} : eCallQ F i r e = ro (someO (e[i]?)) fun d0 => rb (r e) fun ds e => frR (F (d0 :: ds)) (fun d _ => .ok d e) fun x _ => .ex x e := by
  unfold eCallQ someO
  cases e[i]? with
  | none => rfl
  | some o => cases o <;> rfl
@[simp] theorem r_eIxQ : eIxQ i f e = ro (lstO (e[i]?)) fun ds => rb (f e) fun k e => ro (asInt k) fun z => ro (L2.atI ds z) fun d => if d.sc then .ok d e else .stuck := by
  unfold eIxQ
  show _ = ro (lstAt i e) _
  cases lstAt i e with
  | none => rfl
  | some ds =>
    show rb (f e) _ = _
    simp only [ro_some]
    congr 1; funext k e
    cases k <;> first | rfl | (simp only [asInt_int, ro_some]; cases h : L2.atI ds _ with | none => rfl | some d => cases h2 : d.sc <;> simp [h2])
@[simp] theorem r_eLenQ : eLenQ i e = ro (lstO (e[i]?)) fun ds => .ok (.int ds.length) e := by
  unfold eLenQ
  show _ = ro (lstAt i e) _
  cases lstAt i e <;> rfl
end
end MV
namespace MV
open PySem PySem.Spec PyProof.Rows L2
section
variable {X : Cx} {pp : List (Addr × Obj)} {σ : L2.St} {H : Hp} {s : Shared}
end
section
variable {X : Cx} {x n : Str} {c : Value} {i : Nat} {body suite : List Stmt} {b₀ : Stmt} {np pos pos' : Pos} {tb : WX → TS} {ts : Addr → Value → TS} {Wo : WX}
end
abbrev veMro : List Value := [.type "ValueError", .type "Exception", .type "BaseException", .type "object"]
structure XCls (K : PySem.W.Frag) (mg : Str → Option Value) (c : Str) (C : Addr) : Prop where
  n : PySem.W.nsIn K mainGlobals c = some (some (.ref C))
  g : mg c = some (.ref C)
  x : PySem.W.excIn K C veMro "ValueError.__new__" = true
  k : PySem.W.keepIn K (.ref C) = true
  b : PySem.W.subIn K (.ref C) (.type "BaseException") = some true
  t : PySem.W.typeIn K (.ref C) = some (.type "type")
  d : PySem.W.hasDictIn K C = true
  s : PySem.W.subIn K (.ref C) (.ref C) = some true
theorem XCls.cv {K : PySem.W.Frag} {mg : Str → Option Value} {c : Str} {C : Addr} (h : XCls K mg c C) : cvK K c = .ref C := by unfold cvK; rw [h.n]
def sRaise (c : Str) : M Fl := fun e => .ex c e
section
variable {X : Cx} {cf : Cf} {W : WX}
theorem ss_raise {x m : Str} {C : Addr} {j : Nat} {p p2 pos pos' : Pos} (hK : cf.K = X.K) (hcv : cf.cv = cvK cf.K) (hc : X.calm = true) (tk : L2N.Takes X W) (T : XCls X.K X.mg x C) (hg : Gl X x := by rfl) (hdb : (x == ("__debug__" : Str)) = false := by decide) :
    SS X cf W (.Raise (some (.Call (.Name x p) [.Constant (.str m) j p2] [] pos')) none pos) (sRaise x) :=
  ⟨_, L2N.ps_raise hc tk (L2N.pmk_own PySem.F.excBase_ValueError T.x T.g T.k (raises_own T.b T.t) hg hdb), fun R Hs env σ H F wf r D hp => by
    have := hp Hs σ H F wf (Ex.refl _) r
    rw [hcv, hK, T.cv] at this
    exact this⟩
def sTryK (cs : List Str) (i j : Nat) (b : M Fl) : M Fl := fun e => match b e with
  | .ex c e' => if c ∈ cs ∧ j < e'.length then .ok .nx ((e'.set i (some (.exc c))).set j none) else .stuck
  | r => r
end
end MV
namespace MV
open PySem PySem.Spec PyProof.Rows L2
def excSub (c T : Str) : Bool := c == T || T == (Str.ofString "CoverError") || T == (Str.ofString "ValueError")
def gIsX (cs : List Str) (T : Str) : D → Option D
  | .exc c => if c ∈ cs then some (.bl (excSub c T)) else none
  | _ => none
def gIsXT (cs Ts : List Str) : D → Option D
  | .exc c => if c ∈ cs then some (.bl (Ts.any (excSub c))) else none
  | _ => none
section
variable {X : Cx} {cf : Cf} {W : WX} {c ca : Cls} {n n1 : Bool} {a : Expr} {ta : TE} {fa : M D} {pos : Pos}
end
section
variable {e : PEnv} {b : M Fl} {f : M D} {i j : Nat} {cs Ts : List Str} {c T : Str}
@[simp] theorem r_sRaise : sRaise c e = .ex c e := (rfl)
def tryR (cs : List Str) (i j : Nat) (r : Res Fl) : Res Fl := match r with
  | .ex c e' => if c ∈ cs ∧ j < e'.length then .ok .nx ((e'.set i (some (.exc c))).set j none) else .stuck
  | r => r
@[simp] theorem tryR_ok {f : Fl} : tryR cs i j (.ok f e) = .ok f e := (rfl)
@[simp] theorem tryR_ex : tryR cs i j (.ex c e) = if c ∈ cs ∧ j < e.length then .ok .nx ((e.set i (some (.exc c))).set j none) else .stuck := (rfl)
@[simp] theorem r_sTryK : sTryK cs i j b e = tryR cs i j (b e) := (rfl)
@[simp] theorem gIsX_x : gIsX cs T (.exc c) = if c ∈ cs then some (.bl (excSub c T)) else none := (rfl)
@[simp] theorem gIsXT_x : gIsXT cs Ts (.exc c) = if c ∈ cs then some (.bl (Ts.any (excSub c))) else none := (rfl)
end
end MV
namespace MV
open PySem PySem.Spec PyProof.Rows L2
def gCount : D → List D → Option D
  | .lst ds, [y] => if y.sc && ds.all D.sc then some (.int (ds.countP fun z => eqD z y : Nat)) else none
  | _, _ => none
def gAny : List D → Option D
  | [.lst ds] => if ds.all fun x => (asB x).isSome then some (.bl (ds.any fun x => asB x == some true)) else none
  | _ => none
def gIsiT (Ts : List String) (d : D) : Option D := match d.ty with
  | some a => some (.bl (Ts.any (isiB a)))
  | none => none
section
variable {X : Cx} {cf : Cf} {W : WX} {c ca : Cls} {n n1 n2 : Bool}
end
section
variable {e : PEnv} {f : M D} {r : M (List D)} {tg : D → M Unit} {i j : Nat}
@[simp] theorem r_sUnp : sUnp f tg e = rb (f e) fun d e => rb (tg d e) fun _ e => .ok .nx e := (rfl)
end
section
variable {ds : List D} {y : D} {Ts : List String} {i : Int} {x : Str} {b : Bool}
@[simp] theorem gCount_l : gCount (.lst ds) [y] = if y.sc && ds.all D.sc then some (.int (ds.countP fun z => eqD z y : Nat)) else none := (rfl)
@[simp] theorem gAny_l : gAny [.lst ds] = if ds.all fun x => (asB x).isSome then some (.bl (ds.any fun x => asB x == some true)) else none := (rfl)
@[simp] theorem gIsiT_i : gIsiT Ts (.int i) = some (.bl (Ts.any (isiB "int"))) := (rfl)
@[simp] theorem gIsiT_s : gIsiT Ts (.str x) = some (.bl (Ts.any (isiB "str"))) := (rfl)
@[simp] theorem gIsiT_b : gIsiT Ts (.bl b) = some (.bl (Ts.any (isiB "bool"))) := (rfl)
@[simp] theorem gIsiT_l : gIsiT Ts (.lst ds) = some (.bl (Ts.any (isiB "list"))) := (rfl)
@[simp] theorem gIsiT_t : gIsiT Ts (.tup ds) = some (.bl (Ts.any (isiB "tuple"))) := (rfl)
@[simp] theorem gIsiT_n : gIsiT Ts .non = some (.bl (Ts.any (isiB "NoneType"))) := (rfl)
end
end MV
namespace MV
open PySem PySem.Spec PyProof.Rows L2
def ePopW (i : Nat) (f : M D) : M D := fun e => match lstAt i e with
  | none => .stuck
  | some _ => bnd f (fun k => fun e => match lstAt i e, k with
    | some ds, .int z => match ixN ds.length z with
      | some j => match ds[j]? with
        | some d => if ds.length ≤ LIM then .ok d (e.set i (some (.lst (ds.eraseIdx j)))) else .stuck
        | none => .stuck
      | none => .stuck
    | _, _ => .stuck) e
def eLenW (i : Nat) : M D := fun e => match lstAt i e with
  | some ds => .ok (.int ds.length) e
  | none => .stuck
def sRetW (i : Nat) : M Fl := fun e => match lstAt i e with
  | some ds => .ok (.rt (.lst ds)) (e.set i none)
  | none => .stuck
theorem RpL.eraseIdx {K : PySem.W.Frag} {x : Bool} {G : Hp} : ∀ {xs : List V} {ds : List D} (j : Nat), RpL K x G xs ds → RpL K x G (xs.eraseIdx j) (ds.eraseIdx j)
  | _, _, j, .nil => by simp; exact .nil
  | _, _, 0, .cons h r => r
  | _, _, j + 1, .cons h r => .cons h (RpL.eraseIdx j r)
section
variable {X : Cx} {cf : Cf} {W : WX} {c : Cls} {n n1 n2 : Bool}
end
section
variable {e : PEnv} {f : M D} {i : Nat} {z : Str}
@[simp] theorem r_ePopW : ePopW i f e = ro (lstO (e[i]?)) fun _ => rb (f e) fun k e => ro (lstO (e[i]?)) fun ds => ro (asInt k) fun z => ro (L2.ixN ds.length z) fun j => ro (ds[j]?) fun d => if ds.length ≤ LIM then .ok d (e.set i (some (.lst (ds.eraseIdx j)))) else .stuck := by
  unfold ePopW
  show _ = ro (lstAt i e) _
  cases lstAt i e with
  | none => rfl
  | some ds =>
    show rb (f e) _ = _
    simp only [ro_some]
    congr 1; funext k e
    show _ = ro (lstAt i e) _
    cases lstAt i e with
    | none => rfl
    | some ds =>
      simp only [ro_some]
      cases k <;> first | rfl | (simp only [asInt_int, ro_some]; cases L2.ixN ds.length _ with | none => rfl | some j => (simp only [ro_some]; cases ds[j]? <;> rfl))
@[simp] theorem r_eLenW : eLenW i e = ro (lstO (e[i]?)) fun ds => .ok (.int ds.length) e := by
  unfold eLenW
  show _ = ro (lstAt i e) _
  cases lstAt i e <;> rfl
@[simp] theorem r_sRetW : sRetW i e = ro (lstO (e[i]?)) fun ds => .ok (.rt (.lst ds)) (e.set i none) := by
  unfold sRetW
  show _ = ro (lstAt i e) _
  cases lstAt i e <;> rfl
@[simp] theorem gList1_s : gList1 [.str z] = if z.length ≤ LIM then some (.lst (chD z)) else none := (rfl)
end
end MV
namespace MV
open PySem PySem.Spec PyProof.Rows L2
def SdOw (cf : Cf) (W : WX) (te : TE) (f : M D) : Prop :=
  ∀ (R : Rs) (Hs : Hp) (env : PEnv) (σ : L2.St) (H : Hp) (F : Nat → List Addr) (wf : List Addr), Rel cf R Hs env σ H F wf → ∀ Q : VK,
    match f env with
    | .ok d env' => (∀ v Hs' H' G, Stp cf wf env Hs H env' Hs' H' → Rel cf R Hs' env' σ H' F wf → Own cf.K (TH (rs (rm Hs' G) H)) H' G v d → G.Nodup → (∀ a ∈ G, H a = none ∧ H' a ≠ none) → Q v H') → te σ H Q
    | .ex x env' => (∀ Hs' H', Stp cf wf env Hs H env' Hs' H' → Rel cf R Hs' env' σ H' F wf → W (cf.cv x) none σ H') → te σ H Q
    | .stuck => True
def SdAw (cf : Cf) (W : WX) (ta : TA) (f : M (List D)) : Prop :=
  ∀ (R : Rs) (Hs : Hp) (env : PEnv) (σ : L2.St) (H : Hp) (F : Nat → List Addr) (wf : List Addr), Rel cf R Hs env σ H F wf → ∀ Q : List V → Hp → Prop,
    match f env with
    | .ok ds env' => (∀ vs Hs' H' G, Stp cf wf env Hs H env' Hs' H' → Rel cf R Hs' env' σ H' F wf → OwnL cf.K emp H' G vs ds → G.Nodup → (∀ a ∈ G, H a = none ∧ H' a ≠ none) → Q vs H') → ta σ H Q
    | .ex x env' => (∀ Hs' H', Stp cf wf env Hs H env' Hs' H' → Rel cf R Hs' env' σ H' F wf → W (cf.cv x) none σ H') → ta σ H Q
    | .stuck => True
structure SEO (X : Cx) (cf : Cf) (W : WX) (e : Expr) (t : TE) (f : M D) : Prop where
  p : PE X e t
  s : SdOw cf W t f
structure SAO (X : Cx) (cf : Cf) (W : WX) (es : List Expr) (t : TA) (f : M (List D)) : Prop where
  p : PA X es t
  s : SdAw cf W t f
section
variable {X : Cx} {cf : Cf} {W : WX} {c : Cls} {n n1 n2 : Bool} {i : Nat}
def gLstO (ds : List D) : Option D := if ds.length ≤ LIM then some (.lst ds) else none
def gTupO (ds : List D) : Option D := if ds.length ≤ LIM then some (.tup ds) else none
end
section
variable {ds : List D}
@[simp] theorem gLstO_ : gLstO ds = if ds.length ≤ LIM then some (.lst ds) else none := (rfl)
@[simp] theorem gTupO_ : gTupO ds = if ds.length ≤ LIM then some (.tup ds) else none := (rfl)
end
end MV
namespace MV
open PySem PySem.Spec PyProof.Rows L2
theorem OwnL.snoc {K : PySem.W.Frag} {Hn H : Hp} {v : V} {d : D} : ∀ {F F2 : List Addr} {xs : List V} {ds : List D}, OwnL K Hn H F xs ds → Own K Hn H F2 v d → OwnL K Hn H (F ++ F2) (xs ++ [v]) (ds ++ [d])
  | _, F2, _, _, .nil, h => by have := OwnL.cons h (.nil : OwnL K Hn H [] [] []); rw [List.append_nil] at this; exact this
  | _, F2, _, _, .cons (F := F1) h r, h2 => by rw [List.append_assoc]; exact .cons h (OwnL.snoc r h2)
section
variable {X : Cx} {cf : Cf} {W : WX}
end
end MV
namespace MV
open PySem PySem.Spec PyProof.Rows L2
section
variable {P : Program} {w : World} {A : Around} {E : Value → Shared → Prop} {s : Shared}
set_option maxHeartbeats 8000000 in
theorem call_set_lstI {l : Addr} {items : Array Value} (ns : List Int) {Q : Value → Shared → Prop} (hh : A.handled = none) (hl : s.heap.IsList l items) (hit : IntsAre items.toList ns) (hb : ns.length + 1 < scanBound)
    (h : ∀ (h' : Heap) (tk c : Nat), SetR w h' s.heap.objs.size (fun j => decide (j ∈ ns)) c → c ≤ ns.length → (∀ b o, s.heap.get? b = some o → h'.get? b = some o) → Q (.ref s.heap.objs.size) { s with heap := h', toks := tk }) :
    wpAny (model P w) A (call (.type "set") [.ref l]) Q E s := by
  have hisz : items.size = ns.length := by
    have q := IntsAre.length hit
    rw [Array.length_toList] at q
    exact q
  obtain ⟨c, tl, hmro⟩ := F.called_set.mro
  have hmade := F.called_set.made
  have hsub := F.called_set.sub
  refine wpAny_call (codeAny_of_tree ?_)
  show wpAny _ _ (callAny (.type "set") _) _ _ _
  refine wpAny_pure ⟨Code.quiet_builtin _ (by decide +kernel), codeAny_builtin F.entry_type_call ?_⟩
  rw [Around.under_plain (weight_type_call_type "set" [.ref l] []) rfl]
  have h1 := F.called_set.notType
  have h2 := F.called_set.canCreate
  have hct := F.typeCall_set_1 (.ref l)
  repeat (any_goals (first | assumption | wp_step))
  refine codeAny_mono (code_set_led1 (.ref l) (E := E) (Q₁ := fun obj s₁ => obj = .ref s.heap.objs.size ∧ s₁ = { s with heap := s.heap.push { cls := .type "set", dict := none, data := .set #[] 0 (.fresh 0 0 (!w.params.followText "set-order")) } }) ⟨rfl, rfl⟩) fun r s₁ hr => ?_
  cases r with
  | error e => exact hr
  | ok fl =>
    cases fl with
    | ret obj =>
      obtain ⟨rfl, rfl⟩ := hr
      have hS : (s.heap.push { cls := .type "set", dict := none, data := .set #[] 0 (.fresh 0 0 (!w.params.followText "set-order")) }).get? s.heap.objs.size = some { cls := .type "set", dict := none, data := .set #[] 0 (.fresh 0 0 (!w.params.followText "set-order")) } := Heap.get?_push_size _ rfl
      have hT : Shared.TypeIs { s with heap := s.heap.push { cls := .type "set", dict := none, data := .set #[] 0 (.fresh 0 0 (!w.params.followText "set-order")) } } (.ref s.heap.objs.size) "set" := ⟨_, hS, rfl⟩
      have hli := F.called_set.init.lookup
      have hbi := F.called_set.init.bind (.ref s.heap.objs.size)
      repeat (any_goals (first | assumption | wp_step))
      refine codeAny_mono (codeAny_call_builtin (R := wants (fun r s₂ => r = .none ∧ ∃ h' tk c, s₂ = { s with heap := h', toks := tk } ∧ SetR w h' s.heap.objs.size (fun j => decide (j ∈ ns)) c ∧ c ≤ ns.length ∧
          (∀ b o, s.heap.get? b = some o → h'.get? b = some o)) E) F.called_set.init.plain F.entry_set_init (check_set_init_1 hT ?_)) fun r₂ s₂ hr₂ => ?_
      · obtain ⟨ol, hol, hcl, nl, hdl⟩ := hl
        obtain ⟨ocls, odict, odata, oslots⟩ := ol
        simp only at hcl hdl
        subst hcl; subst hdl
        have hol' : (s.heap.push { cls := .type "set", dict := none, data := .set #[] 0 (.fresh 0 0 (!w.params.followText "set-order")) }).get? l = some { cls := .type "list", dict := odict, data := .seq items nl, slots := oslots } := Heap.get?_push_of_some _ hol
        have hsls := F.sub_list_set
        have hslf := F.sub_list_frozenset
        have hne : (Value.type "list" == Value.type "dict") = false := by decide
        have hl1 : (s.heap.push { cls := .type "set", dict := none, data := .set #[] 0 (.fresh 0 0 (!w.params.followText "set-order")) }).IsList l items := ⟨_, hol', rfl, nl, rfl⟩
        unfold Builtin.«set.__init__» noKeywords Builtin.Frozenset.updateFrom
        generalize hPI : pyIter = PI
        wp_walk
        subst hPI
        refine wpAny_pyIter_list hl1 ?_
        refine wpAny_bind (wpAny_runValue ?_)
        have hlS : l < s.heap.objs.size := Heap.lt_size hol
        have hh3 : A.in1.in1.in1.handled = none := by simp [hh]
        have hneI : l ≠ (s.heap.push { cls := .type "set", dict := none, data := .set #[] 0 (.fresh 0 0 (!w.params.followText "set-order")) }).objs.size := by
          rw [Heap.size_push]; exact Nat.ne_of_lt (Nat.lt_succ_of_lt hlS)
        have hSf : s.heap.objs.size ∉ [(s.heap.push { cls := .type "set", dict := none, data := .set #[] 0 (.fresh 0 0 (!w.params.followText "set-order")) }).objs.size, l] := by
          rw [Heap.size_push]; simp only [List.mem_cons, List.mem_singleton, List.not_mem_nil, or_false, not_or]
          exact ⟨Nat.ne_of_lt (Nat.lt_succ_self _), Nat.ne_of_gt hlS⟩
        have hval : ∀ (i : Nat) (v : Value), items[i]? = some v → ∃ k t, ns[i]? = some k ∧ v = .int k t := fun i v hv => by
          have hi : i < ns.length := by rw [← hisz]; exact (Array.getElem?_eq_some_iff.mp hv).1
          obtain ⟨t, e⟩ := PyProof.Rows.IntsAre.int_at hit i v (by rw [Array.getElem?_toList]; exact hv)
          refine ⟨ns[i], t, List.getElem?_eq_getElem hi, ?_⟩
          rw [e, List.getD_eq_getElem?_getD, List.getElem?_eq_getElem hi] <;> rfl
        refine set_update_ints ((Walks.list hh3 _ l hneI items).toS) s.heap.objs.size
          hSf ns hisz hb hval (items.size - 0) 0 _ (by omega) (Nat.zero_le _)
          ⟨⟨_, Heap.get?_push_size _ rfl, rfl, rfl⟩, (hl1.push _)⟩ ?hS0 ?hR
        case hS0 =>
          have hget : ((s.heap.push { cls := .type "set", dict := none, data := .set #[] 0 (.fresh 0 0 (!w.params.followText "set-order")) }).push { cls := .type "list_iterator", data := .fields #[.ref l, .int 0 0] }).get? s.heap.objs.size
              = some { cls := .type "set", dict := none, data := .set #[] 0 (.fresh 0 0 (!w.params.followText "set-order")) } := Heap.get?_push_of_some _ hS
          exact ⟨0, Nat.le_refl 0, setR_new_at hget⟩
        case hR =>
          intro s' c' hm hc' hS'
          obtain ⟨h', g2, d', tk', os'⟩ := s'
          have eg : g2 = s.gens := hm.gens
          have ed : d' = s.drawn := hm.drawn
          have eo : os' = s.os := hm.os
          subst eg; subst ed; subst eo
          show wpAny _ _ _ _ _ _
          refine wpAny_pure ?_
          show wpAny _ _ (PySem.ret Value.none) _ _ _
          rw [hisz] at hc'
          refine wpAny_pure ⟨rfl, h', tk', c', rfl, hS', hc', fun b o e => ?_⟩
          have hb0 : b < s.heap.objs.size := Heap.lt_size e
          have hb1 : b ≠ s.heap.objs.size := Nat.ne_of_lt hb0
          have hb2 : b ≠ (s.heap.push { cls := .type "set", dict := none, data := .set #[] 0 (.fresh 0 0 (!w.params.followText "set-order")) }).objs.size := by
            rw [Heap.size_push]; exact Nat.ne_of_lt (Nat.lt_succ_of_lt hb0)
          exact hm.heap b o (by simp only [List.mem_cons, List.mem_singleton, List.not_mem_nil, or_false, not_or]; exact ⟨hb1, hb2⟩) (Heap.get?_push_of_some _ (Heap.get?_push_of_some _ e))
      · cases r₂ with
        | error e => exact hr₂
        | ok fl₂ =>
          cases fl₂ with
          | ret r =>
            obtain ⟨rfl, h', tk, c', rfl, hS', hc', hk'⟩ := hr₂
            repeat (any_goals (first | assumption | wp_step))
            exact h _ _ _ hS' hc' hk'
          | _ => exact hr₂.elim
    | _ => exact hr.elim
end
section
variable {X : Cx}
end
end MV
namespace MV
open PySem PySem.Spec PyProof.Rows L2
def insD (k : Int) : List Int → List Int
  | [] => [k]
  | x :: r => if k < x then k :: x :: r else if k = x then x :: r else x :: insD k r
def dsI (ns : List Int) : List Int := ns.foldr insD []
def srtI (ns : List Int) : List Int := ns.mergeSort fun a b => decide (a ≤ b)
def keysI : List (Key × D) → Option (List Int)
  | [] => some []
  | (.inl i, _) :: r => (keysI r).map (i :: ·)
  | _ :: _ => none
def gSorted : List D → Option D
  | [.lst ds] => (asInts ds).map fun ns => .lst ((srtI ns).map .int)
  | [.dic kvs] => (keysI kvs).map fun ns => .lst ((srtI ns).map .int)
  | _ => none
def gSortSet : List D → Option D
  | [.lst ds] => match asInts ds with
    | some ns => if ns.length ≤ 4000 then some (.lst ((dsI ns).map .int)) else none
    | none => none
  | _ => none
theorem Rp.dic_invX {K : PySem.W.Frag} {x : Bool} {G : Hp} {v : V} {kvs : List (Key × D)} (h : Rp K x G v (.dic kvs)) : ∃ a kvs', v = .ref a ∧ DqK x G a kvs' ∧ kvs'.map (·.1) = kvs.map (·.1) ∧ RpL K x G (kvs'.map (·.2)) (kvs.map (·.2)) := by
  generalize e : D.dic kvs = d at h
  cases h with
  | sc h => subst e; cases h
  | dic h n r =>
    cases e
    rename_i a ks vs ds
    have l2 : ks.length = ds.length := n.trans r.length
    refine ⟨a, _, rfl, h, ?_, ?_⟩
    · rw [List.map_fst_zip (by omega), List.map_fst_zip (by omega)]
    · rw [List.map_snd_zip (by omega), List.map_snd_zip (by omega)]; exact r
  | _ => cases e
theorem Rp.dic_inv {K : PySem.W.Frag} {G : Hp} {v : V} {kvs : List (Key × D)} (h : Rp K true G v (.dic kvs)) : ∃ a kvs', v = .ref a ∧ G a = some (.dK kvs') ∧ kvs'.map (·.1) = kvs.map (·.1) ∧ RpL K true G (kvs'.map (·.2)) (kvs.map (·.2)) := h.dic_invX
theorem Rp.dit_inv {K : PySem.W.Frag} {x : Bool} {G : Hp} {v : V} {kvs : List (List Key × D)} (h : Rp K x G v (.dit kvs)) : ∃ a kvs', v = .ref a ∧ Rd G a (.dT kvs') ∧ kvs'.map (·.1) = kvs.map (·.1) ∧ RpL K x G (kvs'.map (·.2)) (kvs.map (·.2)) := by
  generalize e : D.dit kvs = d at h
  cases h with
  | sc h => subst e; cases h
  | dit h n r =>
    cases e
    rename_i a ks vs ds
    have l2 : ks.length = ds.length := n.trans r.length
    refine ⟨a, _, rfl, h, ?_, ?_⟩
    · rw [List.map_fst_zip (by omega), List.map_fst_zip (by omega)]
    · rw [List.map_snd_zip (by omega), List.map_snd_zip (by omega)]; exact r
  | _ => cases e
theorem zip_fs {α β : Type} (l : List (α × β)) : (l.map (·.1)).zip (l.map (·.2)) = l := by
  induction l with
  | nil => rfl
  | cons p r ih => simp [ih]
section
variable {X : Cx} {cf : Cf} {W : WX} {c : Cls} {n n1 n2 : Bool}
end
end MV
namespace MV
open PySem PySem.Spec PyProof.Rows L2
def gR3 : List D → Option (List D)
  | [.int i, .int j, .int c] => if smallI i && smallI j && decide (c = -1) then some (rngC i (-1) (i - j).toNat) else none
  | _ => none
section
variable {X : Cx} {cf : Cf} {W : WX} {c : Cls} {n n1 n2 : Bool} {tg : Expr}
end
@[simp] theorem gR3_i {i j : Int} : gR3 [.int i, .int j, .int (-1)] = if smallI i && smallI j then some (rngC i (-1) (i - j).toNat) else none := by
  unfold gR3; simp
def keyD : D → Option Key
  | .int i => some (.inl i)
  | .str x => some (.inr x)
  | _ => none
def keysD : List D → Option (List Key)
  | [] => some []
  | d :: r => match keyD d, keysD r with
    | some k, some ks => some (k :: ks)
    | _, _ => none
def dval {κ : Type} [DecidableEq κ] (kvs : List (κ × D)) (k : κ) : Option D := (kvs.find? fun kv => decide (kv.1 = k)).map (·.2)
def dput {κ : Type} [DecidableEq κ] (kvs : List (κ × D)) (k : κ) (d : D) : List (κ × D) :=
  if (kvs.any fun kv => decide (kv.1 = k)) = true then kvs.map (fun kv => if kv.1 = k then (kv.1, d) else kv) else kvs ++ [(k, d)]
def dLook : D → D → Option (Option D)
  | .dic kvs, y => (keyD y).map fun k => dval kvs k
  | .dit kvs, .tup ks => (keysD ks).map fun k => dval kvs k
  | _, _ => none
def isDic : D → Option Unit
  | .dic _ => some ()
  | .dit _ => some ()
  | _ => none
theorem keyD_v {K : PySem.W.Frag} {x : Bool} {G : Hp} {y : V} {d : D} {k : Key} (h : Rp K x G y d) (q : keyD d = some k) : y = kV k := by
  cases d with
  | int i => cases q; exact h.int_inv
  | str z => cases q; exact h.str_inv
  | _ => cases q
theorem keysD_v {K : PySem.W.Frag} {x : Bool} {G : Hp} : ∀ {ys : List V} {ds : List D} {ks : List Key}, RpL K x G ys ds → keysD ds = some ks → ys = ks.map kV
  | _, _, _, .nil, q => by cases q; rfl
  | _, _, _, .cons h r, q => by
    unfold keysD at q
    split at q
    · rename_i k ks q1 q2
      cases q
      rw [List.map_cons, keyD_v h q1, keysD_v r q2]
    · cases q
def OR (K : PySem.W.Frag) (G : Hp) : Option D → Option V → Prop
  | none, none => True
  | some d, some v => Rp K true G v d
  | _, _ => False
section
variable {κ : Type} [DecidableEq κ] {K : PySem.W.Frag} {x : Bool} {G : Hp}
theorem val_rp {k : κ} : ∀ {kvs' : List (κ × V)} {kvs : List (κ × D)}, kvs'.map (·.1) = kvs.map (·.1) → RpL K true G (kvs'.map (·.2)) (kvs.map (·.2)) → OR K G (dval kvs k) (valV kvs' k)
  | [], [], _, _ => True.intro
  | p :: r, q :: s, h1, h2 => by
    rw [List.map_cons, List.map_cons] at h1 h2
    injection h1 with e1 e2
    cases h2 with
    | cons h2 h3 =>
      by_cases e : p.1 = k
      · have e' : q.1 = k := e1 ▸ e
        rw [valV_pos e]
        have : dval (q :: s) k = some q.2 := by simp [dval, e']
        rw [this]; exact h2
      · have e' : ¬ q.1 = k := fun z => e (e1.trans z)
        rw [valV_neg e]
        have : dval (q :: s) k = dval s k := by simp [dval, e']
        rw [this]; exact val_rp e2 h3
  | [], _ :: _, h1, _ => by cases h1
  | _ :: _, [], h1, _ => by cases h1
theorem any_rp {k : κ} : ∀ {kvs' : List (κ × V)} {kvs : List (κ × D)}, kvs'.map (·.1) = kvs.map (·.1) → (kvs'.any fun kv => decide (kv.1 = k)) = kvs.any fun kv => decide (kv.1 = k)
  | [], [], _ => rfl
  | p :: r, q :: s, h1 => by
    rw [List.map_cons, List.map_cons] at h1
    injection h1 with e1 e2
    rw [List.any_cons, List.any_cons, any_rp e2, e1]
  | [], _ :: _, h1 => by cases h1
  | _ :: _, [], h1 => by cases h1
end
theorem look_rp {K : PySem.W.Frag} {G H : Hp} {x y : V} {d e : D} {o : Option D} (ex : Ex G H) (h1 : Rp K true G x d) (h2 : Rp K true G y e) (q : dLook d e = some o) : ∃ a ov, x = .ref a ∧ IsD H a ∧ DGet H a y ov ∧ OR K G o ov := by
  unfold dLook at q
  split at q
  · rename_i kvs
    obtain ⟨k, q1, rfl⟩ := Option.map_eq_some_iff.mp q
    obtain ⟨a, kvs', rfl, g, r1, r2⟩ := h1.dic_inv
    exact ⟨a, valV kvs' k, rfl, .inl ⟨_, .inl (ex _ _ g)⟩, .inl ⟨_, k, .inl (ex _ _ g), keyD_v h2 q1, rfl⟩, val_rp r1 r2⟩
  · rename_i kvs ks
    obtain ⟨k, q1, rfl⟩ := Option.map_eq_some_iff.mp q
    obtain ⟨a, kvs', rfl, g, r1, r2⟩ := h1.dit_inv
    obtain ⟨b, ys, rfl, s1, r3⟩ := h2.tup_inv
    have s1 : G b = some (.tup ys) := s1
    rw [keysD_v r3 q1] at s1
    exact ⟨a, valV kvs' k, rfl, .inr ⟨_, rd_mono ex g⟩, .inr ⟨_, k, b, rd_mono ex g, rfl, ex _ _ s1, rfl⟩, val_rp r1 r2⟩
  · cases q
def gDNotIn (y x : D) : Option D := (dLook x y).map fun o => .bl (!o.isSome)
def rDNotIn : R2 := fun y x H Q => ∃ a o, x = .ref a ∧ DGet H a y o ∧ Q (.bl (!o.isSome)) H
theorem OR.some_eq {K : PySem.W.Frag} {G : Hp} {o : Option D} {ov : Option V} (h : OR K G o ov) : ov.isSome = o.isSome := by
  cases o <;> cases ov <;> first | rfl | exact h.elim
theorem snd_dnotin {K : PySem.W.Frag} : Snd2 K true rDNotIn gDNotIn := fun G H x y d1 d2 d e h1 h2 q Q k => by
  obtain ⟨o, q1, rfl⟩ := Option.map_eq_some_iff.mp q
  obtain ⟨a, ov, rfl, _, g, r⟩ := look_rp e h2 h1 q1
  exact ⟨a, ov, rfl, g, by rw [r.some_eq]; exact k_sc k rfl⟩
theorem op_dnotin {X : Cx} (hu : X.A.units + 1 < cLine) : OpR X (compareOp .NotIn) rDNotIn := by
  intro pins s σ H x y v u Q I rx ry h
  obtain ⟨a, o, rfl, g, q⟩ := h
  cases ry
  exact d_notIn hu I g rx fun s3 I3 => ⟨.bl (!o.isSome), H, I3, rfl, q⟩
def gDNewK : List D → Option D := fun _ => some (.dic [])
def gDNewT : List D → Option D := fun _ => some (.dit [])
def eDGet1 (fo fk : M D) : M D := bnd fo fun d => bnd (lift (isDic d)) fun _ => bnd fk fun k => lift ((dLook d k).map fun o => o.getD .non)
def eDGet2 (fo fk fx : M D) : M D := bnd fo fun d => bnd (lift (isDic d)) fun _ => bnd fk fun k => bnd fx fun x => lift ((dLook d k).map fun o => o.getD x)
section
variable {X : Cx} {cf : Cf} {W : WX} {c : Cls} {n n1 n2 n3 : Bool}
theorem st_dnotin {a b : Expr} {ta tb : TE} {fa fb : M D} {pos : Pos} (hu : X.A.units + 64 < cLine) (ha : SE X cf W c n1 a ta fa) (hb : SE X cf W c n2 b tb fb) (hm : behindInMarks .NotIn b = false := by rfl) : ST X cf W (.Compare a [.NotIn] [b] pos) (tTest (tOp rDNotIn ta tb)) (tB (e2 gDNotIn fa fb)) :=
  st_cmp (op_dnotin (by omega)) snd_dnotin ha hb hm
def dok : D → Bool
  | .dic [] => true
  | .dit [] => true
  | _ => false
def sSetD (i : Nat) (f : M D) : M Fl := bnd f fun d => bnd (lift (if dok d then some d else none)) fun d => fun e => .ok .nx (e.set i (some d))
end
end MV
namespace MV
open PySem PySem.Spec PyProof.Rows L2
def dPut : D → D → D → Option D
  | .dic kvs, y, v => match keyD y with
    | some k => if kvs.length < LIM then some (.dic (dput kvs k v)) else none
    | none => none
  | .dit kvs, .tup ks, v => match keysD ks with
    | some k => if kvs.length < LIM then some (.dit (dput kvs k v)) else none
    | none => none
  | _, _, _ => none
def dicAt (i : Nat) (e : PEnv) : Option D := match e[i]? with
  | some (some d) => if (isDic d).isSome then some d else none
  | _ => none
def sDP (i : Nat) (fv fk : M D) : M Fl := bnd fv fun d => fun e => match dicAt i e with
  | none => .stuck
  | some _ => bnd fk (fun k => fun e => match dicAt i e with
    | some m => match dPut m k d with
      | some m' => .ok .nx (e.set i (some m'))
      | none => .stuck
    | none => .stuck) e
section
variable {X : Cx} {cf : Cf} {W : WX} {c : Cls} {n n1 n2 n3 : Bool}
theorem len_of_keys {α β γ : Type} {a : List (α × β)} {b : List (α × γ)} (h : a.map (·.1) = b.map (·.1)) : a.length = b.length := by
  have := congrArg List.length h
  rw [List.length_map, List.length_map] at this
  exact this
def gTup1 : List D → Option D
  | [.lst ds] => some (.tup ds)
  | _ => none
def rTup1 (K : PySem.W.Frag) : List V → Hp → VK → Prop := fun xs H Q => ∃ p ys, xs = [.ref p] ∧ ((SqL K H p ys ∧ ∀ l, H l = none → Q (.ref l) (upd H l (.tup ys))) ∨ (SqT K H p ys ∧ Q (.ref p) H))
theorem snd_tup1 {K : PySem.W.Frag} : SndN K true (rTup1 K) gTup1 := fun G H xs ds d e h q Q k => by
  unfold gTup1 at q
  split at q
  · cases q
    obtain ⟨v, rfl, hv⟩ := h.one
    obtain ⟨a, ys, rfl, s1, r1⟩ := hv.lst_inv
    have s1 : G a = some (.lst ys) := s1
    exact ⟨a, ys, rfl, .inl ⟨.inl (.inl (e _ _ s1)), fun p hp => k _ _ (Ex.new hp) (newT_rp e hp r1) (newT_nn hp r1)⟩⟩
  · cases q
theorem se_tup1 {e : Expr} {tA : TA} {fA : M (List D)} {p pos : Pos} (hK : cf.K = X.K) (hm : X.mg "tuple" = none) (ha : SA X cf W c [e] tA fA) (hg : Gl X "tuple" := by rfl) (he : starEach [e] X.env = (false, eval e X.env) :: starEach [] X.env := by rfl) :
    SE X cf W c true (.Call (.Name "tuple" p) [e] [] pos) (tCB (rTup1 cf.K) tA) (eN gTup1 fA) := by
  rw [hK]
  exact se_ct call_tuple_of (n := true) (by rw [hK]; exact snd_tup1) hg hm (by decide +kernel) ha (by decide) (by decide) he rfl
end
section
variable {e : PEnv} {fo fk fx fv : M D} {i : Nat} {ds : List D} {kvs : List (Key × D)} {kts : List (List Key × D)}
@[simp] theorem r_eDGet1 : eDGet1 fo fk e = rb (fo e) fun d e => ro (isDic d) fun _ => rb (fk e) fun k e => lift ((dLook d k).map fun o => o.getD .non) e := by
  show rb (fo e) _ = _
  congr 1; funext d e
  show rb (lift (isDic d) e) _ = _
  cases isDic d <;> rfl
@[simp] theorem r_eDGet2 : eDGet2 fo fk fx e = rb (fo e) fun d e => ro (isDic d) fun _ => rb (fk e) fun k e => rb (fx e) fun x e => lift ((dLook d k).map fun o => o.getD x) e := by
  show rb (fo e) _ = _
  congr 1; funext d e
  show rb (lift (isDic d) e) _ = _
  cases isDic d <;> rfl
@[simp] theorem r_sSetD : sSetD i fv e = rb (fv e) fun d e => if dok d then .ok .nx (e.set i (some d)) else .stuck := by
  show rb (fv e) _ = _
  congr 1; funext d e; cases h : dok d <;> simp [h]
def dicO (o : Option (Option D)) : Option D := match o with
  | some (some d) => if (isDic d).isSome then some d else none
  | _ => none
@[simp] theorem dicO_k : dicO (some (some (.dic kvs))) = some (.dic kvs) := (rfl)
@[simp] theorem dicO_t : dicO (some (some (.dit kts))) = some (.dit kts) := (rfl)
@[simp] theorem r_sDP : sDP i fv fk e = rb (fv e) fun d e => ro (dicO (e[i]?)) fun _ => rb (fk e) fun k e => ro (dicO (e[i]?)) fun m => ro (dPut m k d) fun m' => .ok .nx (e.set i (some m')) := by
  show rb (fv e) _ = _
  congr 1; funext d e
  show _ = ro (dicAt i e) _
  cases dicAt i e with
  | none => rfl
  | some m =>
    show rb (fk e) _ = _
    simp only [ro_some]
    congr 1; funext k e
    show _ = ro (dicAt i e) _
    cases dicAt i e with
    | none => rfl
    | some m => simp only [ro_some]; cases dPut m k d <;> rfl
@[simp] theorem isDic_k : isDic (.dic kvs) = some () := (rfl)
@[simp] theorem isDic_t : isDic (.dit kts) = some () := (rfl)
@[simp] theorem gDNewK_v : gDNewK ds = some (.dic []) := (rfl)
@[simp] theorem gDNewT_v : gDNewT ds = some (.dit []) := (rfl)
@[simp] theorem dok_k : dok (.dic []) = true := (rfl)
@[simp] theorem dok_t : dok (.dit []) = true := (rfl)
@[simp] theorem gTup1_l : gTup1 [.lst ds] = some (.tup ds) := (rfl)
@[simp] theorem keyD_i {j : Int} : keyD (.int j) = some (.inl j) := (rfl)
@[simp] theorem keyD_s {x : Str} : keyD (.str x) = some (.inr x) := (rfl)
@[simp] theorem dLook_k {y : D} : dLook (.dic kvs) y = (keyD y).map fun k => dval kvs k := (rfl)
@[simp] theorem dLook_t : dLook (.dit kts) (.tup ds) = (keysD ds).map fun k => dval kts k := (rfl)
@[simp] theorem gSortSet_l : gSortSet [.lst ds] = match asInts ds with | some ns => if ns.length ≤ 4000 then some (.lst ((dsI ns).map .int)) else none | none => none := (rfl)
@[simp] theorem gSorted_l : gSorted [.lst ds] = (asInts ds).map fun ns => .lst ((srtI ns).map .int) := (rfl)
@[simp] theorem gSorted_k : gSorted [.dic kvs] = (keysI kvs).map fun ns => .lst ((srtI ns).map .int) := (rfl)
end
end MV
namespace MV
open PySem PySem.Spec PyProof.Rows L2
def eChain (g g' : D → D → Option D) (fa fb fc : M D) : M D := bnd fa fun x => bnd fb fun y => bnd (lift (g x y)) fun z => bnd (lift (asB z)) fun k => if k then bnd fc fun w => lift (g' y w) else ret (.bl false)
section
variable {X : Cx} {cf : Cf} {W : WX} {ca cb cc : Cls} {n1 n2 n3 : Bool} {a b c : Expr} {ta tb tc : TE} {fa fb fc : M D} {pos : Pos} {g g' : Int → Int → Bool}
theorem sd_chain (ha : Sd cf W ca n1 ta fa) (hb : Sd cf W cb n2 tb fb) (hc : Sd cf W cc n3 tc fc) : Sd cf W .V true (tChain (rI0 fun i j => .bl (g i j)) (rI0 fun i j => .bl (g' i j)) ta tb tc) (eChain (gI2 fun i j => some (.bl (g i j))) (gI2 fun i j => some (.bl (g' i j))) fa fb fc) := by
  refine Sd.mk (fun R Hs env σ H F wf r d env' q Q k => ?_) (fun R Hs env σ H F wf r x env' q Q k => ?_)
  · obtain ⟨d1, env1, q1, qa⟩ := bnd_ok q
    obtain ⟨d2, env2, q2, qb⟩ := bnd_ok qa
    obtain ⟨d3, env3, q3, qc⟩ := bnd_ok qb
    obtain ⟨q3, e3⟩ := lift_ok q3
    obtain ⟨i, j, rfl, rfl, q3⟩ := gI2_some q3
    cases q3
    obtain ⟨b1, env4, q4, qd⟩ := bnd_ok qc
    obtain ⟨q4, e4⟩ := lift_ok q4
    cases q4
    subst e4 e3
    refine ha.ok r q1 fun v1 Hs1 H1 s1 r1 p1 _ => hb.ok r1 q2 fun v2 Hs2 H2 s2 r2 p2 _ => ⟨i, j, p1.int_inv, p2.int_inv, g i j, rfl, ?_⟩
    cases hg : g i j with
    | false =>
      rw [hg] at qd
      cases qd
      exact k _ Hs2 H2 (s1.trans s2) r2 (.bl _) fun _ _ => .bl _
    | true =>
      rw [hg] at qd
      obtain ⟨d5, env5, q5, q6⟩ := bnd_ok qd
      obtain ⟨q7, e6⟩ := lift_ok q6
      subst e6
      obtain ⟨i2, j2, e7, rfl, q8⟩ := gI2_some q7
      cases e7
      cases q8
      exact hc.ok r2 q5 fun v3 Hs3 H3 s3 r3 p3 _ => ⟨_, _, p2.int_inv, p3.int_inv, k _ Hs3 H3 ((s1.trans s2).trans s3) r3 (.bl _) fun _ _ => .bl _⟩
  · rcases bnd_ex q with q | ⟨d1, env1, q1, qa⟩
    · exact ha.exn r q fun Hs' H' s' r' => k Hs' H' s' r'
    · rcases bnd_ex qa with q | ⟨d2, env2, q2, qb⟩
      · exact ha.ok r q1 fun v1 Hs1 H1 s1 r1 p1 _ => hb.exn r1 q fun Hs2 H2 s2 r2 => k Hs2 H2 (s1.trans s2) r2
      · rcases bnd_ex qb with q | ⟨d3, env3, q3, qc⟩
        · exact (lift_ex q).elim
        · obtain ⟨q3, e3⟩ := lift_ok q3
          obtain ⟨i, j, rfl, rfl, q3⟩ := gI2_some q3
          cases q3
          rcases bnd_ex qc with q | ⟨b1, env4, q4, qd⟩
          · exact (lift_ex q).elim
          · obtain ⟨q4, e4⟩ := lift_ok q4
            cases q4
            subst e4 e3
            refine ha.ok r q1 fun v1 Hs1 H1 s1 r1 p1 _ => hb.ok r1 q2 fun v2 Hs2 H2 s2 r2 p2 _ => ⟨i, j, p1.int_inv, p2.int_inv, g i j, rfl, ?_⟩
            cases hg : g i j with
            | false => rw [hg] at qd; cases qd
            | true =>
              rw [hg] at qd
              rcases bnd_ex qd with q | ⟨d5, env5, q5, q6⟩
              · exact hc.exn r2 q fun Hs3 H3 s3 r3 => k Hs3 H3 ((s1.trans s2).trans s3) r3
              · exact (lift_ex q6).elim
theorem se_chain {op op' : CmpOp} (ho : OpR X (compareOp op) (rI0 fun i j => .bl (g i j))) (ho' : OpR X (compareOp op') (rI0 fun i j => .bl (g' i j))) (ha : SE X cf W ca n1 a ta fa) (hb : SE X cf W cb n2 b tb fb) (hc : SE X cf W cc n3 c tc fc)
    (hm : lastMarks [op, op'] [b, c] = false := by with_unfolding_all rfl) : SE X cf W .V true (.Compare a [op, op'] [b, c] pos) (tChain (rI0 fun i j => .bl (g i j)) (rI0 fun i j => .bl (g' i j)) ta tb tc) (eChain (gI2 fun i j => some (.bl (g i j))) (gI2 fun i j => some (.bl (g' i j))) fa fb fc) :=
  ⟨pe_chain ho ho' ha.p hb.p hc.p hm, sd_chain ha.s hb.s hc.s⟩
end
section
variable {e : PEnv} {fa fb fc : M D} {g g' : D → D → Option D}
@[simp] theorem r_eChain : eChain g g' fa fb fc e = rb (fa e) fun x e => rb (fb e) fun y e => rb (lift (g x y) e) fun z e => rb (lift (asB z) e) fun k e => if k then rb (fc e) fun w e => lift (g' y w) e else .ok (.bl false) e := by
  show rb (fa e) _ = _
  congr 1; funext x e
  show rb (fb e) _ = _
  congr 1; funext y e
  show rb _ _ = _
  congr 1; funext z e
  show rb _ _ = _
  congr 1; funext k e; cases k <;> rfl
end
end MV
namespace MV
open PySem PySem.Spec PyProof.Rows L2
section
variable {X : Cx} {cf : Cf} {W : WX} {c : Cls} {n n1 n2 : Bool}
def sSetML (i : Nat) (fa : M (List D)) : M Fl := bnd fa fun ds => fun e => if ds.length ≤ LIM then .ok .nx (e.set i (some (.lst ds))) else .stuck
def sSetMC (i : Nat) (fa : M (List D)) : M Fl := fun e => match lstAt i e with
  | none => .stuck
  | some _ => bnd fa (fun ds => fun e => match lstAt i e with
    | some ds0 => if ds0.length + ds.length ≤ LIM then .ok .nx (e.set i (some (.lst (ds0 ++ ds)))) else .stuck
    | none => .stuck) e
theorem SdA.bind {ta : TA} {fa : M (List D)} {g : List D → M Fl} {R : Rs} {Hs : Hp} {env : PEnv} {σ : L2.St} {H : Hp} {F : Nat → List Addr} {wf : List Addr} {D : Ends} {Q : List V → Hp → Prop} (s : SdA cf W c ta fa) (r : Rel cf R Hs env σ H F wf) (hp : Post cf W R Hs D (bnd fa g env))
    (hx : ∀ x σ' H', W x none σ' H' → W x none σ' H')
    (k : ∀ ds env1 vs Hs1 H1, Stp cf wf env Hs H env1 Hs1 H1 → Rel cf R Hs1 env1 σ H1 F wf → RpL cf.K true (rg c R.H0 Hs1 H H1 wf) vs ds → Post cf W R Hs D (g ds env1) → Q vs H1) : ta σ H Q := by
  cases q : fa env with
  | ok ds env1 => exact s.ok r q fun vs Hs1 H1 s1 r1 p1 => k ds env1 vs Hs1 H1 s1 r1 p1 (by rw [bnd_of_ok q] at hp; exact hp)
  | ex x env1 => exact s.exn r q fun Hs1 H1 s1 r1 => by rw [bnd_of_ex q] at hp; exact hp Hs1 σ H1 F wf s1.ex r1
  | stuck => rw [bnd_of_stuck q] at hp; exact hp.elim
end
section
variable {P : Program} {w : World} {K : PySem.W.Frag} {mg : Str → Option Value} {base : Heap}
end
section
variable {e : PEnv} {i : Nat} {r : M (List D)}
@[simp] theorem r_sSetML : sSetML i r e = rb (r e) fun ds e => if ds.length ≤ LIM then .ok .nx (e.set i (some (.lst ds))) else .stuck := (rfl)
@[simp] theorem r_sSetMC : sSetMC i r e = ro (lstO (e[i]?)) fun _ => rb (r e) fun ds e => ro (lstO (e[i]?)) fun ds0 => if ds0.length + ds.length ≤ LIM then .ok .nx (e.set i (some (.lst (ds0 ++ ds)))) else .stuck := by
  unfold sSetMC
  show _ = ro (lstAt i e) _
  cases lstAt i e with
  | none => rfl
  | some ds =>
    show rb (r e) _ = _
    simp only [ro_some]
    congr 1; funext d e
    show _ = ro (lstAt i e) _
    cases lstAt i e <;> rfl
end
end MV
namespace MV
open PySem L2
open PySem.W (alike alikeAll dataLt minD AlikeAll AllAlike Sortable dataLe EachIs)
def D.P (d : D) : PyData := d.toP.getD .none
mutual
theorem toP_inj : ∀ {a b : D} {p : PyData}, a.toP = some p → b.toP = some p → a = b
  | .non, b, p, h, h2 => by cases h; cases b <;> first | rfl | (simp [D.toP] at h2)
  | .bl x, b, p, h, h2 => by cases h; cases b <;> first | (simp [D.toP] at h2; subst h2; rfl) | (simp [D.toP] at h2)
  | .int x, b, p, h, h2 => by cases h; cases b <;> first | (simp [D.toP] at h2; subst h2; rfl) | (simp [D.toP] at h2)
  | .str x, b, p, h, h2 => by cases h; cases b <;> first | (simp [D.toP] at h2; subst h2; rfl) | (simp [D.toP] at h2)
  | .lst xs, b, p, h, h2 => by
    rw [D.toP, Option.map_eq_some_iff] at h
    obtain ⟨ps, h, rfl⟩ := h
    cases b with
    | lst ys =>
      rw [D.toP, Option.map_eq_some_iff] at h2
      obtain ⟨qs, h2, e⟩ := h2
      cases e
      rw [toPs_inj h h2]
    | _ => simp [D.toP] at h2
  | .tup xs, b, p, h, h2 => by
    rw [D.toP, Option.map_eq_some_iff] at h
    obtain ⟨ps, h, rfl⟩ := h
    cases b with
    | tup ys =>
      rw [D.toP, Option.map_eq_some_iff] at h2
      obtain ⟨qs, h2, e⟩ := h2
      cases e
      rw [toPs_inj h h2]
    | _ => simp [D.toP] at h2
  | .dic _, b, p, h, h2 => by cases h
  | .dit _, b, p, h, h2 => by cases h
  | .exc _, b, p, h, h2 => by cases h
theorem toPs_inj : ∀ {a b : List D} {p : List PyData}, toPs a = some p → toPs b = some p → a = b
  | [], b, p, h, h2 => by
    cases h
    cases b with
    | nil => rfl
    | cons y ys => rw [toPs] at h2; split at h2 <;> cases h2
  | x :: xs, b, p, h, h2 => by
    rw [toPs] at h
    split at h
    · rename_i p1 p2 e1 e2
      cases h
      cases b with
      | nil => cases h2
      | cons y ys =>
        rw [toPs] at h2
        split at h2
        · rename_i q1 q2 f1 f2
          cases h2
          rw [toP_inj e1 f1, toPs_inj e2 f2]
        · cases h2
    · cases h
end
theorem P_of {d : D} {p : PyData} (h : d.toP = some p) : d.P = p := by unfold D.P; rw [h]; rfl
theorem toPs_all : ∀ {l : List D}, (∀ d ∈ l, d.toP.isSome = true) → toPs l = some (l.map D.P)
  | [], _ => rfl
  | d :: l, h => by
    have h1 := h d List.mem_cons_self
    rw [toPs, toPs_all fun x m => h x (List.mem_cons_of_mem _ m)]
    cases q : d.toP with
    | none => rw [q] at h1; cases h1
    | some p => rw [List.map_cons, P_of q]
def okO (l : List D) : Bool := l.all fun a => a.toP.isSome && decide (a.P.depth ≤ 60) && (match a with | .non => false | _ => true) && l.all fun b => alike a.P b.P
theorem okO_some {l : List D} (h : okO l = true) : ∀ d ∈ l, d.toP.isSome = true := fun d m => by
  have := List.all_eq_true.mp h d m
  rw [Bool.and_eq_true, Bool.and_eq_true, Bool.and_eq_true] at this
  exact this.1.1.1
theorem okO_alike {l : List D} (h : okO l = true) : AlikeAll (l.map D.P) := by
  constructor
  · intro x hx y hy
    obtain ⟨a, ha, rfl⟩ := List.mem_map.mp hx
    obtain ⟨b, hb, rfl⟩ := List.mem_map.mp hy
    have := List.all_eq_true.mp h a ha
    rw [Bool.and_eq_true] at this
    exact List.all_eq_true.mp this.2 b hb
  · intro x hx e
    obtain ⟨a, ha, rfl⟩ := List.mem_map.mp hx
    have := List.all_eq_true.mp h a ha
    rw [Bool.and_eq_true, Bool.and_eq_true, Bool.and_eq_true] at this
    obtain ⟨⟨⟨s, _⟩, n⟩, _⟩ := this
    cases q : a.toP with
    | none => rw [q] at s; cases s
    | some p =>
      rw [P_of q] at e
      subst e
      have := toP_inj (b := .non) q rfl
      subst this
      cases n
def ltD (a b : D) : Bool := dataLt a.P b.P
section
variable {X : Cx} {cf : Cf} {W : WX} {c ca cb : Cls} {n n1 n2 : Bool} {a b : Expr} {ta tb : TE} {fa fb : M D} {pos : Pos}
end
def mnD (d : D) (ds : List D) : D := ds.foldl (fun a y => if ltD y a then y else a) d
def gMinD : List D → Option D
  | [.lst (d :: ds)] => if okO (d :: ds) then some (mnD d ds) else none
  | _ => none
def gMinX : List D → Option D
  | [.lst []] => some .non
  | x => gMinD x
section
variable {X : Cx} {cf : Cf} {W : WX} {c ca cb : Cls} {n n1 n2 : Bool} {e : Expr} {es : List Expr} {tA : TA} {fA : M (List D)} {p pos kpos npos : Pos} {j : Nat}
end
end MV
namespace MV
open PySem PySem.Spec PyProof.Rows L2
section
variable {X : Cx} {cf : Cf} {W : WX} {c : Cls} {n n1 n2 : Bool}
structure ItOkN (K : PySem.W.Frag) (H0 : Hp) (J : It) (G1 Hs1 : Hp) (ds : List D) : Prop where
  go : ∀ i H, i < ds.length → Ex G1 H → J.go i H
  stop : ∀ H, Ex G1 H → J.stop ds.length H
  yld : ∀ i H x H', Ex G1 H → i < ds.length → J.yld i H x H' → Ex H H' ∧ ∀ G, Ex Hs1 G → Ex G H → ∃ d, ds[i]? = some d ∧ Rp K true (rs G H0) x d
def SdIN (cf : Cf) (W : WX) (wi : TI) (fi : M (List D)) : Prop :=
  ∀ (R : Rs) (Hs : Hp) (env : PEnv) (σ : L2.St) (H : Hp) (F : Nat → List Addr) (wf : List Addr), Rel cf R Hs env σ H F wf → ∀ Rk : It → Hp → Prop,
    match fi env with
    | .ok ds env' => (∀ J G1 Hs' H', Stp cf wf env Hs H env' Hs' H' → Rel cf R Hs' env' σ H' F wf → Ex G1 (rm H' wf) → ItOkN cf.K R.H0 J G1 Hs' ds → Rk J H') → wi σ H Rk
    | .ex x env' => (∀ Hs' H', Stp cf wf env Hs H env' Hs' H' → Rel cf R Hs' env' σ H' F wf → W (cf.cv x) none σ H') → wi σ H Rk
    | .stuck => True
structure SIN (X : Cx) (cf : Cf) (W : WX) (tg iter : Expr) (wi : TI) (fi : M (List D)) : Prop where
  p : PI X tg iter wi
  s : SdIN cf W wi fi
def SdGN (cf : Cf) (is : List Nat) (g : TG) (tg : D → M Unit) : Prop :=
  ∀ (R : Rs) (Hs : Hp) (env : PEnv) (σ : L2.St) (H : Hp) (F : Nat → List Addr) (wf : List Addr), Rel cf R Hs env σ H F wf → ∀ (d : D) (v : V), Rp cf.K true (rs Hs R.H0) v d → ∀ Q : L2.St → Hp → Prop,
    match tg d env with
    | .ok _ env' => (∀ σ', Rel cf R Hs env' σ' H F wf → wipe σ' is = wipe σ is → (∀ j, j ∉ is → env'[j]? = env[j]?) → Q σ' H) → g v σ H Q
    | .ex _ _ => False
    | .stuck => True
structure SGtN (X : Cx) (cf : Cf) (is : List Nat) (tg : Expr) (g : TG) (f : D → M Unit) : Prop where
  p : PG X tg g
  s : SdGN cf is g f
end
section
variable {X : Cx} {cf : Cf} {W : WX} {ca cb : Cls} {n1 n2 : Bool} {a b : Expr} {ta tb : TE} {fa fb : M D} {pos : Pos}
end
end MV
namespace MV
open PySem PySem.Spec PyProof.Rows L2
section
variable {K : PySem.W.Frag} {Hn H : Hp}
theorem Own.sc_nil {F : List Addr} {v : V} {d : D} (h : Own K Hn H F v d) (hs : d.sc = true) : F = [] := by
  cases h with
  | leaf _ => rfl
  | lst _ _ => cases hs
  | tup _ _ => cases hs
  | dic _ _ _ => cases hs
  | dit _ _ _ => cases hs
theorem OwnL.init : ∀ {F : List Addr} {vs : List V} {ds : List D} {v : V} {d : D}, OwnL K Hn H F (vs ++ [v]) (ds ++ [d]) → vs.length = ds.length → d.sc = true → OwnL K Hn H F vs ds
  | _, [], [], v, d, h, _, hs => by
    have h : OwnL K Hn H _ [v] [d] := h
    cases h with
    | cons h1 h2 =>
      cases h2
      rw [h1.sc_nil hs]
      exact .nil
  | _, _ :: _, [], v, d, h, hl, _ => by cases hl
  | _, [], _ :: _, v, d, h, hl, _ => by cases hl
  | _, x :: xs, y :: ys, v, d, h, hl, hs => by
    have h : OwnL K Hn H _ (x :: (xs ++ [v])) (y :: (ys ++ [d])) := h
    cases h with
    | cons h1 h2 => exact .cons h1 (OwnL.init h2 (by simpa using hl) hs)
theorem OwnL.set : ∀ {F : List Addr} {vs : List V} {ds : List D} (j : Nat) {v : V} {d d0 : D}, OwnL K Hn H F vs ds → ds[j]? = some d0 → d0.sc = true → Rp K true Hn v d → OwnL K Hn H F (vs.set j v) (ds.set j d)
  | _, _, _, j, v, d, d0, .nil, h, _, _ => by simp at h
  | _, _, _, 0, v, d, d0, .cons h1 h2, h, hs, r => by
    simp at h
    subst h
    have e := h1.sc_nil hs
    subst e
    exact OwnL.cons (F := []) (.leaf r) h2
  | _, _, _, j + 1, v, d, d0, .cons h1 h2, h, hs, r => .cons h1 (OwnL.set j h2 (by simpa using h) hs r)
end
section
variable {X : Cx} {cf : Cf} {W : WX} {c : Cls} {n n1 n2 : Bool}
def PostQ (cf : Cf) (W : WX) (R : Rs) (Hs : Hp) (env : PEnv) (σ : L2.St) (H : Hp) (F : Nat → List Addr) (wf : List Addr) (D : Ends) : Res Fl → Prop
  | .ok .nx env' => ∀ Hs' H', Stp cf wf env Hs H env' Hs' H' → Rel cf R Hs' env' σ H' F wf → D.nx σ H'
  | .ok (.rt d) env' => ∀ v Hs' H', Stp cf wf env Hs H env' Hs' H' → Rel cf R Hs' env' σ H' F wf → Rp cf.K true (rs (rm H' wf) R.H0) v d → D.rt v H'
  | .ok .bk env' => ∀ Hs' H', Stp cf wf env Hs H env' Hs' H' → Rel cf R Hs' env' σ H' F wf → D.bk σ H'
  | .ok .ct env' => ∀ Hs' H', Stp cf wf env Hs H env' Hs' H' → Rel cf R Hs' env' σ H' F wf → D.ct σ H'
  | .ex x env' => ∀ Hs' H', Stp cf wf env Hs H env' Hs' H' → Rel cf R Hs' env' σ H' F wf → W (cf.cv x) none σ H'
  | .stuck => False
theorem PostQ.step {R : Rs} {Hs Hs1 : Hp} {env env1 : PEnv} {σ : L2.St} {H H1 : Hp} {F : Nat → List Addr} {wf : List Addr} {D : Ends} {x : Res Fl} (s : Stp cf wf env Hs H env1 Hs1 H1) (h : PostQ cf W R Hs env σ H F wf D x) : PostQ cf W R Hs1 env1 σ H1 F wf D x := by
  cases x with
  | ok f env' =>
    cases f with
    | nx => exact fun Hs' H' s' r' => h Hs' H' (s.trans s') r'
    | rt d => exact fun v Hs' H' s' r' p => h v Hs' H' (s.trans s') r' p
    | bk => exact fun Hs' H' s' r' => h Hs' H' (s.trans s') r'
    | ct => exact fun Hs' H' s' r' => h Hs' H' (s.trans s') r'
  | ex c env' => exact fun Hs' H' s' r' => h Hs' H' (s.trans s') r'
  | stuck => exact h
end
end MV
namespace MV
open PySem PySem.Spec PyProof.Rows L2
structure FnQ (P : Program) (w : World) (K : PySem.W.Frag) (mg : Str → Option Value) (base : Heap) (k : Nat) (f : Addr) (fd : FuncData) (ps : List Str) (sp : Sp) : Prop where
  len : ∀ vs H Q E, sp vs H Q E → vs.length = ps.length
  run : ∀ (A : Around) (outer : List Env) (s : Shared) (H : Hp) (args : Args) (us : List Value) (vs : List V) (Q : VK) (E : XK), L2H.RoomH k A → Env0 P w K mg base A outer s H →
    BindsTo s fd args (ps.zip us) → Vals vs us → sp vs H Q E → codeAny (model P w) A (.call (.ref f) args) (CR (L2N.CX P w) outer P w H s Q E) s
section
variable {P : Program} {w : World} {K : PySem.W.Frag} {mg : Str → Option Value} {base : Heap}
end
section
variable {X : Cx} {cf : Cf} {W : WX}
end
section
variable {X : Cx} {x n : Str} {c : Value} {i : Nat} {body suite : List Stmt} {b₀ : Stmt} {np pos pos' : Pos} {tb : WX → TS} {ts : Addr → Value → TS} {Wo : WX}
end
section
variable {X : Cx} {cf : Cf} {W : WX}
end
end MV
namespace MV
open PySem PySem.Spec PyProof.Rows L2
section
open Classical
variable {cf : Cf} {R : Rs} {Hs H : Hp} {env : PEnv} {σ : L2.St} {F : Nat → List Addr} {wf : List Addr}
def Held (cf : Cf) (F : Nat → List Addr) (a : Addr) : Prop := ∃ i, cf.kd i ≠ .W ∧ a ∈ F i
theorem Held.un (r : Rel cf R Hs env σ H F wf) {a : Addr} (h : Held cf F a) : Hs a = none := by obtain ⟨i, _, m⟩ := h; exact r.uns i a m
theorem Held.nw (r : Rel cf R Hs env σ H F wf) {a : Addr} (h : Held cf F a) : a ∉ wf := by obtain ⟨i, k, m⟩ := h; exact r.volb i k a m
theorem Held.dom (r : Rel cf R Hs env σ H F wf) {a : Addr} (h : Held cf F a) : H a ≠ none := by obtain ⟨i, k, m⟩ := h; exact r.fdom i a m
end
section
variable {X : Cx} {cf : Cf} {W : WX} {a : Expr} {ta : TE} {fa : M D} {n : Bool}
end
end MV
namespace MV
open PySem PySem.Spec PyProof.Rows L2
open PySem.W (minD)
def gIxL : D → D → Option D
  | .lst ds, .int i => L2.atI ds i
  | _, _ => none
@[simp] theorem gIxL_l {ds : List D} {i : Int} : gIxL (.lst ds) (.int i) = L2.atI ds i := (rfl)
section
variable {X : Cx} {cf : Cf} {W : WX} {c : Cls} {n n1 : Bool}
def gMinXL : List D → Option D
  | [.lst ds] => gMinX [.lst ds]
  | _ => none
@[simp] theorem gMinXL_l {ds : List D} : gMinXL [.lst ds] = gMinX [.lst ds] := (rfl)
section
variable {e : Expr} {p pos kpos npos : Pos} {j i : Nat}
end
section
variable {R : Rs} {Hs H : Hp} {env : PEnv} {σ : L2.St} {F : Nat → List Addr} {wf : List Addr}
end
end
end MV
namespace MV
open PySem PySem.Spec PyProof.Rows L2
section
variable {X : Cx} {cf : Cf} {W : WX} {c : Cls} {n n1 : Bool}
def SdGsN (cf : Cf) (is js : List Nat) (g : TGs) : Prop :=
  ∀ (R : Rs) (Hs : Hp) (env : PEnv) (σ : L2.St) (H : Hp) (F : Nat → List Addr) (wf : List Addr), Rel cf R Hs env σ H F wf → ∀ (ds : List D) (vs : List V), RpL cf.K true (rs Hs R.H0) vs ds → ∀ Q : L2.St → Hp → Prop, ∀ env', setAll js ds env = some env' →
    (∀ σ', Rel cf R Hs env' σ' H F wf → wipe σ' is = wipe σ is → (∀ j, j ∉ is → env'[j]? = env[j]?) → Q σ' H) → g vs σ H Q
structure SGtsN (X : Cx) (cf : Cf) (is js : List Nat) (ts : List Expr) (g : TGs) : Prop where
  p : PGs X ts g
  s : SdGsN cf is js g
end
end MV
namespace MV
open PySem PySem.Spec PyProof.Rows L2
def gZpA : List D → Option (List D)
  | [.lst as, .lst bs] => some (zipD as bs)
  | [.tup as, .tup bs] => some (zipD as bs)
  | _ => none
@[simp] theorem gZpA_l {a b : List D} : gZpA [.lst a, .lst b] = some (zipD a b) := (rfl)
@[simp] theorem gZpA_t {a b : List D} : gZpA [.tup a, .tup b] = some (zipD a b) := (rfl)
section
variable {X : Cx} {cf : Cf} {W : WX} {c : Cls} {n n1 : Bool}
end
end MV
namespace MV
open PySem PySem.Spec PyProof.Rows L2
def sClr (i : Nat) : M Fl := fun e => match lstAt i e with
  | some _ => .ok .nx (e.set i (some (.lst [])))
  | none => .stuck
section
variable {X : Cx} {cf : Cf} {W : WX} {c : Cls} {n n1 : Bool}
@[simp] theorem r_sClr {i : Nat} {e : PEnv} : sClr i e = ro (lstO (e[i]?)) fun _ => .ok .nx (e.set i (some (.lst []))) := by
  unfold sClr
  show _ = ro (lstAt i e) _
  cases lstAt i e <;> rfl
end
end MV
namespace MV
open PySem PySem.Spec PyProof.Rows L2
section
variable {cf : Cf} {R : Rs} {Hs H : Hp} {env : PEnv} {σ : L2.St} {F : Nat → List Addr} {wf : List Addr} {i : Nat} {p : Addr} {kvs : List (Key × D)} {kvs' : List (Key × V)}
end
def eLock (i : Nat) (f : M D) : M D := fun e => match e[i]? with
  | some (some (.dic kvs)) => if (kvs.map (·.2)).all D.sc then (match f e with
    | .ok d e' => .ok d e'
    | _ => .stuck) else .stuck
  | _ => .stuck
section
variable {X : Cx} {cf : Cf} {W : WX} {a : Expr} {ta : TE} {fa : M D} {n : Bool} {i : Nat}
@[simp] theorem r_eLock {e : PEnv} {kvs : List (Key × D)} (h : e[i]? = some (some (.dic kvs))) (hs : (kvs.map (·.2)).all D.sc = true) {d : D} {e' : PEnv} (hf : fa e = .ok d e') : eLock i fa e = .ok d e' := by
  unfold eLock
  simp only [h, hs, hf, if_true]
end
end MV
namespace MV
open PySem PySem.Spec PyProof.Rows L2
def gIsB : D → D → Option D
  | .bl a, .bl b => some (.bl (decide (a = b)))
  | _, _ => none
def gNotB : D → D → Option D
  | .bl a, .bl b => some (.bl (!decide (a = b)))
  | _, _ => none
@[simp] theorem gIsB_b {a b : Bool} : gIsB (.bl a) (.bl b) = some (.bl (decide (a = b))) := (rfl)
@[simp] theorem gNotB_b {a b : Bool} : gNotB (.bl a) (.bl b) = some (.bl (!decide (a = b))) := (rfl)
section
variable {X : Cx} {cf : Cf} {W : WX} {c c' : Cls} {n n1 n2 : Bool} {a b : Expr} {ta tb : TE} {fa fb : M D} {pos : Pos}
end
def okR3 (i j c : Int) : Bool := decide (c ≠ 0) && decide (c.natAbs < 1073741824) && Builtin.Range.small i j c && decide ((Builtin.Range.rangeSize i j c).toNat ≤ LIM)
def gLR3 : List D → Option D
  | [.int i, .int j, .int c] => if okR3 i j c then some (.lst (rngC i c (Builtin.Range.rangeSize i j c).toNat)) else none
  | _ => none
@[simp] theorem gLR3_i {i j c : Int} : gLR3 [.int i, .int j, .int c] = if okR3 i j c then some (.lst (rngC i c (Builtin.Range.rangeSize i j c).toNat)) else none := (rfl)
section
variable {X : Cx} {cf : Cf} {W : WX} {c : Cls} {n : Bool}
end
end MV
namespace MV
open PySem PySem.Spec PyProof.Rows L2
section
variable {X : Cx} {cf : Cf} {W : WX}
end
end MV
namespace MV
open PySem L2
def sealC (cf : Cf) (i : Nat) : Cf := ⟨cf.K, fun j => bif j == i then .N else cf.kd j, cf.cv⟩
def fgR (i : Nat) : Res Fl → Res Fl
  | .ok f e => .ok f (e.set i none)
  | .ex c e => .ex c (e.set i none)
  | .stuck => .stuck
def sSeal (i : Nat) (g : M Fl) : M Fl := fun e => fgR i (g e)
theorem seal_i {cf : Cf} {i : Nat} : (sealC cf i).kd i = .N := by show (bif i == i then _ else _) = _; rw [beq_self_eq_true]; rfl
theorem seal_ne {cf : Cf} {i j : Nat} (h : j ≠ i) : (sealC cf i).kd j = cf.kd j := by show (bif j == i then _ else _) = _; rw [beq_eq_false_iff_ne.mpr h]; rfl
def shr (Hs H : Hp) (F : List Addr) : Hp := fun a => if a ∈ F then H a else Hs a
theorem shr_in {Hs H : Hp} {F : List Addr} {a : Addr} (h : a ∈ F) : shr Hs H F a = H a := if_pos h
theorem shr_out {Hs H : Hp} {F : List Addr} {a : Addr} (h : a ∉ F) : shr Hs H F a = Hs a := if_neg h
section
variable {cf : Cf} {R : Rs} {Hs H H' : Hp} {env : PEnv} {σ : L2.St} {F : Nat → List Addr} {wf : List Addr} {i : Nat}
theorem shr_ex (r : Rel cf R Hs env σ H F wf) : Ex Hs (shr Hs H (F i)) := fun a o h => by
  by_cases m : a ∈ F i
  · rw [r.uns i a m] at h; cases h
  · rw [shr_out m]; exact h
theorem Rel.seal (r : Rel cf R Hs env σ H F wf) (hk : cf.kd i = .M ∨ cf.kd i = .P) : Rel (sealC cf i) R (shr Hs H (F i)) env σ H (fun j => if j = i then [] else F j) wf where
  len := r.len
  exs := fun a o h => by
    by_cases m : a ∈ F i
    · rw [shr_in m] at h; exact h
    · rw [shr_out m] at h; exact r.exs a o h
  ex0 := fun a o h n => shr_ex r a o (r.ex0 a o h n)
  dom0 := r.dom0
  slot := fun j d hj => by
    obtain ⟨v, h1, h2⟩ := r.slot j d hj
    refine ⟨v, h1, ?_⟩
    have e := shr_ex (i := i) r
    have hw : cf.kd i ≠ .W := by rcases hk with hk | hk <;> rw [hk] <;> exact fun z => by cases z
    by_cases c : j = i
    · subst c
      rw [seal_i]
      have nio : ∀ a ∈ F j, R.H0 a = none := fun a m => by
        rcases r.new j a m with h | h
        · obtain ⟨_, q1, q2, _⟩ := r.ior a h
          by_cases z : j = 0
          · subst z; exact absurd q2 hw
          · exact absurd (by rw [q1]; exact List.mem_cons_self) (r.dis j 0 z a m)
        · exact h
      have hg : ∀ a ∈ F j, ∀ o, H a = some o → rs (shr Hs H (F j)) R.H0 a = some o := fun a m o h => by
        rw [rs_none (nio a m), shr_in m]; exact h
      rcases hk with hk | hk
      · rw [hk] at h2
        exact Own.rp (rs_mono e) h2.1 hg
      · rw [hk] at h2
        exact Own.rp (th_sub.trans (rs_mono e)) h2 hg
    · rw [seal_ne c]
      show SlotR cf.K R (shr Hs H (F i)) H (if j = i then [] else F j) (cf.kd j) v d
      rw [if_neg c]
      cases q : cf.kd j with
      | S => rw [q] at h2; exact Rp.mono e h2
      | Q => rw [q] at h2; exact Rp.mono e h2
      | P => rw [q] at h2; exact Own.mono (th_mono (rs_mono e)) (Ex.refl _) h2
      | N => rw [q] at h2; exact Rp.mono (rs_mono e) h2
      | M => rw [q] at h2; exact ⟨Own.mono (rs_mono e) (Ex.refl _) h2.1, h2.2⟩
      | W => rw [q] at h2; exact h2
  nod := fun j => by
    show (if j = i then [] else F j).Nodup
    split
    · exact List.nodup_nil
    · exact r.nod j
  dis := fun j k hjk a m => by
    have m : a ∈ (if j = i then [] else F j) := m
    show a ∉ (if k = i then [] else F k)
    split at m
    · cases m
    · split
      · exact fun z => by cases z
      · exact r.dis j k hjk a m
  fdom := fun j a m => by
    have m : a ∈ (if j = i then [] else F j) := m
    split at m
    · cases m
    · exact r.fdom j a m
  uns := fun j a m => by
    have m : a ∈ (if j = i then [] else F j) := m
    split at m
    · cases m
    · rename_i c
      rw [shr_out (r.dis j i c a m)]; exact r.uns j a m
  new := fun j a m => by
    have m : a ∈ (if j = i then [] else F j) := m
    split at m
    · cases m
    · exact r.new j a m
  volw := fun j hj a m => by
    have m : a ∈ (if j = i then [] else F j) := m
    split at m
    · cases m
    · rename_i c
      rw [seal_ne c] at hj
      exact r.volw j hj a m
  volb := fun j hj a m => by
    have m : a ∈ (if j = i then [] else F j) := m
    split at m
    · cases m
    · rename_i c
      rw [seal_ne c] at hj
      exact r.volb j hj a m
  wdom := fun a m => by
    refine ⟨(r.wdom a m).1, ?_⟩
    have hw : cf.kd i ≠ .W := by rcases hk with hk | hk <;> rw [hk] <;> exact fun z => by cases z
    rw [shr_out fun z => r.volb i hw a z m]
    exact (r.wdom a m).2
  ior := fun p hp => by
    obtain ⟨q1, q2, q3, q4⟩ := r.ior p hp
    have c : (0 : Nat) ≠ i := fun z => by
      subst z
      rw [q3] at hk
      rcases hk with hk | hk <;> cases hk
    exact ⟨q1, by show (if 0 = i then [] else F 0) = [p]; rw [if_neg c]; exact q2, by rw [seal_ne c]; exact q3, q4⟩
theorem Rel.unseal (r : Rel (sealC cf i) R Hs env σ H F wf) (hk : cf.kd i ≠ .W) : Rel cf R Hs (env.set i none) σ H (fun j => if j = i then [] else F j) wf where
  len := by rw [List.length_set]; exact r.len
  exs := r.exs
  ex0 := r.ex0
  dom0 := r.dom0
  slot := fun j d hj => by
    by_cases c : j = i
    · subst c
      rw [List.getElem?_set] at hj
      simp only [if_true] at hj
      split at hj <;> cases hj
    · rw [List.getElem?_set, if_neg (fun z => c z.symm)] at hj
      obtain ⟨v, h1, h2⟩ := r.slot j d hj
      refine ⟨v, h1, ?_⟩
      rw [seal_ne c] at h2
      show SlotR cf.K R Hs H (if j = i then [] else F j) (cf.kd j) v d
      rw [if_neg c]
      exact h2
  nod := fun j => by
    show (if j = i then [] else F j).Nodup
    split
    · exact List.nodup_nil
    · exact r.nod j
  dis := fun j k hjk a m => by
    have m : a ∈ (if j = i then [] else F j) := m
    show a ∉ (if k = i then [] else F k)
    split at m
    · cases m
    · split
      · exact fun z => by cases z
      · exact r.dis j k hjk a m
  fdom := fun j a m => by
    have m : a ∈ (if j = i then [] else F j) := m
    split at m
    · cases m
    · exact r.fdom j a m
  uns := fun j a m => by
    have m : a ∈ (if j = i then [] else F j) := m
    split at m
    · cases m
    · exact r.uns j a m
  new := fun j a m => by
    have m : a ∈ (if j = i then [] else F j) := m
    split at m
    · cases m
    · exact r.new j a m
  volw := fun j hj a m => by
    have m : a ∈ (if j = i then [] else F j) := m
    split at m
    · cases m
    · rename_i c
      exact r.volw j (by rw [seal_ne c]; exact hj) a m
  volb := fun j hj a m => by
    have m : a ∈ (if j = i then [] else F j) := m
    split at m
    · cases m
    · rename_i c
      exact r.volb j (by rw [seal_ne c]; exact hj) a m
  wdom := r.wdom
  ior := fun p hp => by
    obtain ⟨q1, q2, q3, q4, q5⟩ := r.ior p hp
    have c : (0 : Nat) ≠ i := fun z => by
      subst z
      rw [seal_i] at q3
      cases q3
    refine ⟨q1, by show (if 0 = i then [] else F 0) = [p]; rw [if_neg c]; exact q2, by rw [seal_ne c] at q3; exact q3, q4, ?_⟩
    rw [List.getElem?_set, if_neg (fun z => c z.symm)]
    exact q5
end
section
variable {X : Cx} {cf : Cf} {W : WX}
theorem Post.seal {R : Rs} {Hs Hs1 : Hp} {D : Ends} {x : Res Fl} {i : Nat} (hk : cf.kd i ≠ .W) (e : Ex Hs Hs1) (h : Post cf W R Hs D (fgR i x)) : Post (sealC cf i) W R Hs1 D x := by
  cases x with
  | ok f env' =>
    cases f with
    | nx => exact fun Hs' σ' H' F' wf' e' r => h Hs' σ' H' _ wf' (e.trans e') (r.unseal hk)
    | rt d => exact fun v Hs' σ' H' F' wf' e' r p => h v Hs' σ' H' _ wf' (e.trans e') (r.unseal hk) p
    | bk => exact fun Hs' σ' H' F' wf' e' r => h Hs' σ' H' _ wf' (e.trans e') (r.unseal hk)
    | ct => exact fun Hs' σ' H' F' wf' e' r => h Hs' σ' H' _ wf' (e.trans e') (r.unseal hk)
  | ex c env' => exact fun Hs' σ' H' F' wf' e' r => h Hs' σ' H' _ wf' (e.trans e') (r.unseal hk)
  | stuck => exact h
theorem sss_seal {i : Nat} {rest : List Stmt} {g : M Fl} (hk : cf.kd i = .M ∨ cf.kd i = .P) (h : SSs X (sealC cf i) W rest g) : SSs X cf W rest (sSeal i g) := by
  obtain ⟨t, p, s⟩ := h
  refine ⟨t, p, fun R Hs env σ H F wf r D hp => ?_⟩
  have hw : cf.kd i ≠ .W := by rcases hk with hk | hk <;> rw [hk] <;> exact fun z => by cases z
  exact s R _ env σ H _ wf (r.seal hk) D (Post.seal hw (shr_ex r) hp)
end
@[simp] theorem r_sSeal {i : Nat} {g : M Fl} {e : PEnv} : sSeal i g e = fgR i (g e) := rfl
@[simp] theorem fgR_ok {i : Nat} {f : Fl} {e : PEnv} : fgR i (.ok f e) = .ok f (e.set i none) := rfl
@[simp] theorem fgR_ex {i : Nat} {c : Str} {e : PEnv} : fgR i (.ex c e) = .ex c (e.set i none) := rfl
end MV
namespace MV
open PySem L2
open PySem.W (alike alikeAll dataLt minD AlikeAll AllAlike Sortable dataLe EachIs)
def leD (a b : D) : Bool := !ltD b a
def srtD (ds : List D) : List D := ds.mergeSort leD
def isTup1 : D → Bool
  | .tup (_ :: _) => true
  | _ => false
def gSortD : List D → Option D
  | [.lst ds] => if okO ds && ds.all isTup1 then some (.lst (srtD ds)) else none
  | _ => none
def rSortD (K : PySem.W.Frag) : List V → Hp → VK → Prop := fun vs H Q => ∃ (a : Addr) (bs : List (V × D)), vs = [.ref a] ∧ SqL K H a (bs.map (·.1)) ∧ DpAll K H (bs.map (·.1)) (bs.map fun b => b.2.P) ∧ AllAlike (bs.map fun b => b.2.P) ∧ Sortable (bs.map fun b => b.2.P) ∧ (∀ b ∈ bs, b.2.P.depth ≤ 60) ∧
  ∀ p, H p = none → Q (.ref p) (upd H p (.lst ((bs.mergeSort fun x y => leD x.2 y.2).map (·.1))))
theorem readsAll_eachI {h : Heap} {α : Type} {f : α → PyData} : ∀ {us : List Value} {bs : List α} {as : List Addr}, ReadsAll h us (bs.map f) as → EachIs (fun v b => ∃ as, Reads h v (f b) as) us bs
  | _, [], _, h => by cases h; exact .nil
  | _, b :: bs, _, h => by
    cases h with
    | cons h1 h2 => exact .cons ⟨_, h1⟩ (readsAll_eachI h2)
theorem vals_each {α : Type} {f : α → V} : ∀ {bs : List α} {us : List Value}, Vals (bs.map f) us → EachIs (fun v b => RelV (f b) v) us bs
  | [], _, h => by cases h; exact .nil
  | b :: bs, _, h => by
    cases h with
    | cons h1 h2 => exact .cons h1 (vals_each h2)
theorem each_vals {α : Type} {f : α → V} : ∀ {bs : List α} {us : List Value}, EachIs (fun v b => RelV (f b) v) us bs → Vals (bs.map f) us
  | _, _, .nil => .nil
  | _, _, .cons h r => .cons h (each_vals r)
theorem cr_sortD {X : Cx} (hu : X.A.units + 64 < cLine) : CallR X (.builtin "sorted") (rSortD X.K) := by
  intro pins s σ H vs us Q I r h
  obtain ⟨a, bs, rfl, hs, hd, al, so, dp, q⟩ := h
  obtain ⟨its, rv, hl, hz⟩ := I.list hs
  rw [Vals.ref1 r]
  obtain ⟨as, hr⟩ := Dp.readsAll I _ _ _ hd rv
  have hz' : bs.length ≤ sizeLine := by rw [List.length_map] at hz; exact hz
  refine PySem.W.sorted_data (R := fun v (b : V × D) => RelV b.1 v) (enc := fun b : V × D => b.2.P) hl.isList (vals_each (f := fun b : V × D => b.1) rv) (readsAll_eachI (f := fun b : V × D => b.2.P) hr) al so hz' (fun b hb => by have := dp b hb; omega) fun out ol oe => ?_
  obtain ⟨ep, he'⟩ := PyProof.Rows.sortedAll_at s.heap its out.toArray
  have le : (dataLe false fun b : V × D => b.2.P) = fun x y => leD x.2 y.2 := rfl
  rw [le] at oe
  have hv := each_vals oe
  have hlen : ((bs.mergeSort fun x y => leD x.2 y.2).map (·.1)).length ≤ sizeLine := by
    rw [List.length_map, List.length_mergeSort]; exact hz'
  exact ⟨.ref _, upd H (s.heap.objs.size + 1) (.lst ((bs.mergeSort fun x y => leD x.2 y.2).map (·.1))), I.laid (t' := s.toks) (fun _ _ => PyProof.Rows.sortedAll_old) (Nat.le_succ _) ⟨hlen, out, ep, hv, he'⟩, rfl, q _ (I.hok.fresh (Nat.le_succ _))⟩
theorem rpl_pairs {K : PySem.W.Frag} {x : Bool} {G : Hp} : ∀ {l : List (V × D)}, (∀ b ∈ l, Rp K x G b.1 b.2) → RpL K x G (l.map (·.1)) (l.map (·.2))
  | [], _ => .nil
  | b :: l, h => .cons (h b List.mem_cons_self) (rpl_pairs fun c hc => h c (List.mem_cons_of_mem _ hc))
theorem rpl_zip {K : PySem.W.Frag} {x : Bool} {G : Hp} : ∀ {vs : List V} {ds : List D}, RpL K x G vs ds → ∃ l : List (V × D), l.map (·.1) = vs ∧ l.map (·.2) = ds ∧ ∀ b ∈ l, Rp K x G b.1 b.2
  | _, _, .nil => ⟨[], rfl, rfl, by simp⟩
  | _, _, .cons h r => by
    obtain ⟨l, rfl, rfl, h2⟩ := rpl_zip r
    refine ⟨(_, _) :: l, rfl, rfl, fun b hb => ?_⟩
    rcases List.mem_cons.mp hb with rfl | hb
    · exact h
    · exact h2 b hb
theorem snd_sortD {K : PySem.W.Frag} : SndN K true (rSortD K) gSortD := fun G H xs ds d e h q Q k => by
  unfold gSortD at q
  split at q
  · rename_i es
    split at q
    · rename_i ok
      cases q
      rw [Bool.and_eq_true] at ok
      obtain ⟨ok, tu⟩ := ok
      obtain ⟨v, rfl, hv⟩ := h.one
      obtain ⟨a, ys, rfl, s1, r1⟩ := hv.lst_inv
      have s1 : G a = some (.lst ys) := s1
      obtain ⟨l, rfl, rfl, hl⟩ := rpl_zip r1
      have tp := toPs_all (okO_some ok)
      have dp := r1.dp e tp
      rw [List.map_map] at dp
      have al := okO_alike ok
      rw [List.map_map] at al
      have so : Sortable (l.map fun b => b.2.P) := .inl fun d hd => by
        obtain ⟨b, hb, rfl⟩ := List.mem_map.mp hd
        have hm : b.2 ∈ l.map (·.2) := List.mem_map.mpr ⟨b, hb, rfl⟩
        have t := List.all_eq_true.mp tu b.2 hm
        obtain ⟨p, hp⟩ := Option.isSome_iff_exists.mp (okO_some ok b.2 hm)
        rw [P_of hp]
        cases q : b.2 with
        | tup zs =>
          rw [q] at t hp
          cases zs with
          | nil => cases t
          | cons z zs =>
            rw [D.toP, toPs] at hp
            split at hp
            · simp at hp; exact ⟨_, _, hp.symm⟩
            · simp at hp
        | _ => rw [q] at t; cases t
      refine ⟨a, l, rfl, .inl (.inl (e _ _ s1)), dp, al.1, so, fun b hb => ?_, fun p hp => ?_⟩
      · have := List.all_eq_true.mp ok b.2 (List.mem_map.mpr ⟨b, hb, rfl⟩)
        rw [Bool.and_eq_true, Bool.and_eq_true, Bool.and_eq_true] at this
        exact of_decide_eq_true this.1.1.2
      · have pm : (l.mergeSort fun x y => leD x.2 y.2).map (·.2) = srtD (l.map (·.2)) := by
          unfold srtD
          exact List.map_mergeSort fun x _ y _ => rfl
        have rr : RpL K true G ((l.mergeSort fun x y => leD x.2 y.2).map (·.1)) (srtD (l.map (·.2))) := by
          rw [← pm]
          exact rpl_pairs fun b hb => hl b (List.mem_mergeSort.mp hb)
        exact k _ _ (Ex.new hp) (new_rp e hp rr) (new_nn (G := G) hp rr)
    · cases q
  · cases q
section
variable {X : Cx} {cf : Cf} {W : WX} {c : Cls}
theorem se_sortD {e : Expr} {ta : TA} {fa : M (List D)} {p pos : Pos} (hK : cf.K = X.K) (hc : X.calm = true) (hu : X.A.units + 64 < cLine) (hm : X.mg "sorted" = none) (ha : SA X cf W c [e] ta fa) (hg : Gl X "sorted" := by rfl) (he : starEach [e] X.env = (false, eval e X.env) :: starEach [] X.env := by rfl) :
    SE X cf W c true (.Call (.Name "sorted" p) [e] [] pos) (tCB (rSortD cf.K) ta) (eN gSortD fa) :=
  se_cb (by rw [hK]; exact cr_sortD hu) snd_sortD hg hm (by first | rfl | decide +kernel) ha (by decide) (by decide) he rfl
end
end MV
namespace MV
open PySem PySem.Spec PyProof.Rows L2
def gSIndex : D → List D → Option D
  | .str a, [.str b] => match Builtin.Str.occurrences a b 0 a.length 1 with
    | i :: _ => some (.int (i : Nat))
    | [] => none
  | _, _ => none
def rSIndex : V → List V → Hp → VK → Prop := fun x xs H Q => ∃ a b i rest, x = .str a ∧ xs = [.str b] ∧ Builtin.Str.occurrences a b 0 a.length 1 = i :: rest ∧ Q (.int (i : Nat)) H
theorem snd_sindex {K : PySem.W.Frag} : SndM K true "str" rSIndex gSIndex := fun G H x xs d1 ds d e h1 h2 q Q k => by
  unfold gSIndex at q
  split at q
  · rename_i a b
    split at q
    · rename_i i rest ho
      cases q
      obtain ⟨v, rfl, hv⟩ := h2.one
      rw [h1.str_inv, hv.str_inv]
      exact ⟨a, b, i, rest, rfl, rfl, ho, k_sc k rfl⟩
    · cases q
  · cases q
theorem sc_sindex : ∀ x xs d, gSIndex x xs = some d → d.sc = true := fun x xs d q => by
  unfold gSIndex at q
  split at q
  · split at q
    · cases q; rfl
    · cases q
  · cases q
section
variable {X : Cx} {cf : Cf} {W : WX} {c : Cls} {n n1 n2 : Bool}
theorem se_sindex {o e : Expr} {es : List Expr} {to : TE} {tA : TA} {fo : M D} {fA : M (List D)} {apos cpos : Pos} (hK : cf.K = X.K) (ho : SE X cf W c n1 o to fo) (ha : SA X cf W c (e :: es) tA fA)
    (hbase : attributeBase o "index" X.env (eval o X.env) = eval o X.env := by rfl)
    (hfew : ((backTo cpos (starEach (e :: es) X.env)).all (fun x => !x.1) && (backToKw cpos (keywordEach [] X.env)).all (fun x => x.1.isSome)
      && decide ((e :: es).length + ([] : List Keyword).length + (if ([] : List Keyword).isEmpty then 0 else 1) < 30)) = true := by rfl)
    (hline : (apos.endLine == cpos.line) = true := by rfl) (hs : starEach (e :: es) X.env = (false, eval e X.env) :: starEach es X.env := by rfl) (hplain : (backTo cpos (starEach es X.env)).any (·.1) = false := by rfl) :
    SE X cf W .V true (.Call (.Attribute o "index" apos) (e :: es) [] cpos) (tBM cf.K "str" rSIndex to tA) (eM "str" gSIndex fo fA) :=
  SE.low (c := c) (n := true) ⟨hK ▸ pe_bm PySem.F.plainAttrs_str PySem.F.slot_str_index PySem.F.type_str_index mt_sindex ho.p ha.p hbase hfew hline hs hplain, sd_bm (.inr rfl) snd_sindex ho.s ha.s⟩ (scM sc_sindex)
end
@[simp] theorem tyD_s {z : Str} : tyD (.str z) = "str" := (rfl)
end MV
namespace Ov
open PySem MV
def B_need_signs : M Fl := (sIf (tB (e2 gNe (eLc [1] (iL (eV 0)) (tgN 1) (tOr2 (tB (e2 gNe (eN gLen (aCons (eV 1) aNil)) (eC (.int 1)))) (tB (e2 gNotIn (eV 1) (eC (.str (Str.ofString "abcdefghijklmnopqrstuvwxyz")))))) (eV 1)) (eN gLst aNil))) (sRaise (Str.ofString "NoSign")) sSkip)
def F_need_signs : List D → FR := runF 2 B_need_signs
def T_greatest_borders_l1 : M Bool := (tAnd2 (tB (e2 gGt (eV 2) (eC (.int 0)))) (tB (e2 gNe (e2 gIx (eV 0) (eV 2)) (eV 4))))
def B_greatest_borders_l2 : M Fl := (sSet 2 (eS (e2 gIx (eV 1) (e2 gSub (eV 2) (eC (.int 1))))))
def B_greatest_borders_l3 : M Fl := (sSeq (sIf (tB (e2 gGt (eV 3) (eC (.int 0)))) (sSeq (sWhile T_greatest_borders_l1 B_greatest_borders_l2 WFUEL)
  (sAug (fun i j => i + j) 2 (eN gInt1 (aCons (e2 gEq (e2 gIx (eV 0) (eV 2)) (eV 4)) aNil)))) sSkip)
  (sApp 1 (eS (eV 2))))
def B_greatest_borders : M Fl := (sSeq (sSetM 1 (eN gLst aNil))
  (sSeq (sSet 2 (eC (.int 0)))
  (sSeq (sFor (iN gEn (aCons (eV 0) aNil)) (tgT [3, 4]) B_greatest_borders_l3)
  (sRet (eV 1)))))
def F_greatest_borders : List D → FR := runF 5 B_greatest_borders
def B__law_take : M Fl := (sSeq (sIf (tB (e2 gGt (eIxW 0 (eC (.int 0))) (eC (.int 0)))) (sSeq (sSet 2 (e2 gMod (eIxW 0 (eC (.int 0))) (eV 1)))
  (sSeq (sPutW 0 (e2 gFdiv (eIxW 0 (eC (.int 0))) (eV 1)) (eC (.int 0)))
  (sRet (eV 2)))) sSkip)
  (sSeq (sPutW 0 (e2 gMod (e2 gMul (eIxW 0 (eC (.int 1))) (eC (.int 48271))) (eC (.int 2147483647))) (eC (.int 1)))
  (sRet (e2 gMod (e2 gFdiv (e2 gPow (e2 gAdd (eIxW 0 (eC (.int 1))) (eC (.int 1))) (eC (.int 7))) (eC (.int 8))) (eV 1)))))
def F__law_take : List D → FR := runF 3 B__law_take
def T_borders_l1 : M Bool := (tB (e2 gGt (eV 3) (eC (.int 0))))
def B_borders_l2 : M Fl := (sSeq (sApp 1 (eS (eV 3)))
  (sSet 3 (e2 gIx (eV 2) (e2 gSub (eV 3) (eC (.int 1))))))
def B_borders : M Fl := (sSeq (sDrop (eCall F_need_signs (aCons (eV 0) aNil)))
  (sSeq (sSetM 1 (eN gLst aNil))
  (sSeq (sIf (tB (e2 gNe (eV 0) (eN gLst aNil))) (sSeq (sSet 2 (eCall F_greatest_borders (aCons (eV 0) aNil)))
  (sSeq (sSet 3 (e2 gIx (eV 2) (e1 gNeg (eC (.int 1)))))
  (sSeq (sWhile T_borders_l1 B_borders_l2 WFUEL)
  (sApp 1 (eC (.int 0)))))) sSkip)
  (sRet (e1 gRev (eV 1))))))
def F_borders : List D → FR := runF 4 B_borders
def B__law_letters_l1 : M Fl := (sSeq (sSet 4 (eCallW F__law_take 0 (aCons (eN gLen (aCons (eV 1) aNil)) aNil)))
  (sSeq (sSet 2 (eF (e2 gAdd (eV 2) (e2 gIx (eV 1) (eV 4)))))
  (sSet 1 (e2 gAdd (eSl (eV 1) oNone (oSome (eV 4))) (eSl (eV 1) (oSome (e2 gAdd (eV 4) (eC (.int 1)))) oNone)))))
def B__law_letters : M Fl := (sSeq (sSet 1 (eC (.str (Str.ofString "abcdefghijklmnopqrstuvwxyz"))))
  (sSeq (sSet 2 (eC (.str (Str.ofString ""))))
  (sSeq (sFor (iN gR1 (aCons (e2 gIx (eN gLst (aCons (eC (.int 2)) (aCons (eC (.int 3)) (aCons (eC (.int 5)) (aCons (eC (.int 26)) aNil))))) (eCallW F__law_take 0 (aCons (eC (.int 4)) aNil))) aNil)) (tgN 3) B__law_letters_l1)
  (sRet (eV 2)))))
def F__law_letters : List D → FR := runF 5 B__law_letters
def B__law_signs : M Fl := (sRet (eF (eLc [3] (iN gR1 (aCons (eV 2) aNil)) (tgN 3) tTrue (e2 gIx (eV 1) (eCallW F__law_take 0 (aCons (eN gLen (aCons (eV 1) aNil)) aNil))))))
def F__law_signs : List D → FR := runF 4 B__law_signs
def B_need_word : M Fl := (sIf (tB (e2 gEq (eV 0) (eN gLst aNil))) (sRaise (Str.ofString "NoWord")) sSkip)
def F_need_word : List D → FR := runF 1 B_need_word
def B_laid_at : M Fl := (sSeq (sSet 2 (eN gLen (aCons (eV 1) aNil)))
  (sRet (eF (eLc [3] (iN gR1 (aCons (e2 gAdd (e2 gSub (eN gLen (aCons (eV 0) aNil)) (eV 2)) (eC (.int 1))) aNil)) (tgN 3) (tB (e2 gEq (eSl (eV 0) (oSome (eV 3)) (oSome (e2 gAdd (eV 3) (eV 2)))) (eV 1))) (eV 3)))))
def F_laid_at : List D → FR := runF 4 B_laid_at
def B_lies_at : M Fl := (sSeq (sDrop (eCall F_need_word (aCons (eV 1) aNil)))
  (sSeq (sDrop (eCall F_need_signs (aCons (e2 gAdd (eV 0) (eV 1)) aNil)))
  (sRet (eCall F_laid_at (aCons (eV 0) (aCons (eV 1) aNil))))))
def F_lies_at : List D → FR := runF 2 B_lies_at
def B__law_word : M Fl := (sSeq (sSet 3 (eCallW F__law_take 0 (aCons (eC (.int 4)) aNil)))
  (sSeq (sSet 4 (e2 gAdd (eC (.int 1)) (eCallW F__law_take 0 (aCons (eN gMax2 (aCons (eC (.int 1)) (aCons (eN gLen (aCons (eV 2) aNil)) aNil))) aNil))))
  (sSeq (sSet 5 (eCallW F__law_take 0 (aCons (eN gMax2 (aCons (eC (.int 1)) (aCons (eN gLen (aCons (eV 2) aNil)) aNil))) aNil)))
  (sSeq (sSetM 6 (e2 gIx (eN gLst (aCons (eF (eSl (eV 2) oNone (oSome (eV 4)))) (aCons (eF (eSl (eV 2) (oSome (eV 5)) (oSome (e2 gAdd (eV 5) (eV 4))))) (aCons (eN gLst aNil) (aCons (eF (eSl (eV 2) oNone (oSome (e2 gAdd (eC (.int 1)) (e2 gMod (eV 4) (eC (.int 7))))))) aNil))))) (eS (eV 3))))
  (sSeq (sIf (tB (e2 gEq (eV 6) (eN gLst aNil))) (sSetM 6 (eCallW F__law_signs 0 (aCons (eV 1) (aCons (e2 gAdd (eC (.int 1)) (eCallW F__law_take 0 (aCons (eC (.int 6)) aNil))) aNil)))) sSkip)
  (sSeq (sIf (tB (e2 gEq (eCallW F__law_take 0 (aCons (eC (.int 8)) aNil)) (eC (.int 1)))) (sSeq (sSetM 6 (eF (eN gList1 (aCons (eV 6) aNil))))
  (sPut 6 (eS (e2 gIx (eV 1) (eCallW F__law_take 0 (aCons (eN gLen (aCons (eV 1) aNil)) aNil)))) (eCallW F__law_take 0 (aCons (eN gLen (aCons (eV 6) aNil)) aNil)))) sSkip)
  (sRet (eV 6))))))))
def F__law_word : List D → FR := runF 7 B__law_word
def B_need_text : M Fl := (sIf (tB (e2 gEq (eV 0) (eN gLst aNil))) (sRaise (Str.ofString "NoText")) sSkip)
def F_need_text : List D → FR := runF 1 B_need_text
def B_first_bare_l1 : M Fl := (sIf (tB (e2 gLe (eV 4) (eV 3))) (sSet 3 (eN gMax2 (aCons (eV 3) (aCons (e2 gAdd (eV 4) (eV 0)) aNil)))) sSkip)
def B_first_bare : M Fl := (sSeq (sSet 3 (eC (.int 0)))
  (sSeq (sFor (iL (eV 1)) (tgN 4) B_first_bare_l1)
  (sSeq (sIf (tB (e2 gLt (eV 3) (eV 2))) (sRet (eV 3)) sSkip)
  (sRet (eC .non)))))
def F_first_bare : List D → FR := runF 5 B_first_bare
def B_need_both : M Fl := (sSeq (sDrop (eCall F_need_word (aCons (eV 1) aNil)))
  (sSeq (sDrop (eCall F_need_signs (aCons (e2 gAdd (eV 0) (eV 1)) aNil)))
  (sDrop (eCall F_need_text (aCons (eV 0) aNil)))))
def F_need_both : List D → FR := runF 2 B_need_both
def B_covered : M Fl := (sSeq (sDrop (eCall F_need_both (aCons (eV 0) (aCons (eV 1) aNil))))
  (sSeq (sSet 2 (eCall F_lies_at (aCons (eV 0) (aCons (eV 1) aNil))))
  (sSeq (sSet 3 (eCall F_first_bare (aCons (eN gLen (aCons (eV 1) aNil)) (aCons (eV 2) (aCons (eN gLen (aCons (eV 0) aNil)) aNil)))))
  (sSeq (sIf (tB (e2 gIsN (eV 3) (eC .non))) (sRet (eN gTupD (aCons (eC (.str (Str.ofString "covers"))) (aCons (eV 2) aNil)))) sSkip)
  (sRet (eN gTupD (aCons (eC (.str (Str.ofString "bare"))) (aCons (eV 3) aNil))))))))
def F_covered : List D → FR := runF 4 B_covered
def B_all_covers : M Fl := (sSeq (sDrop (eCall F_need_signs (aCons (eV 0) aNil)))
  (sSeq (sDrop (eCall F_need_text (aCons (eV 0) aNil)))
  (sSeq (sSet 1 (eLc [2] (iL (eCall F_borders (aCons (eV 0) aNil))) (tgN 2) (tAnd2 (tB (e2 gGt (eV 2) (eC (.int 0)))) (tB (e2 gEq (e2 gIx (eCall F_covered (aCons (eV 0) (aCons (eSl (eV 0) oNone (oSome (eV 2))) aNil))) (eC (.int 0))) (eC (.str (Str.ofString "covers")))))) (eV 2)))
  (sRet (eF (e2 gAdd (eV 1) (eN gLst (aCons (eN gLen (aCons (eV 0) aNil)) aNil))))))))
def F_all_covers : List D → FR := runF 3 B_all_covers
def B__law_cell_at : M Fl := (sSeq (sIf (tB (e2 gLt (eV 1) (eLenQ 0))) (sRet (eIxQ 0 (eV 1))) sSkip)
  (sRet (eC (.int 0))))
def F__law_cell_at : List D → FR := runF 2 B__law_cell_at
def B__law_deck : M Fl := (sRet (eN gLst (aCons (eN gMax2 (aCons (eC (.int 0)) (aCons (e2 gSub (eV 0) (e2 gPow (eC (.int 10)) (eC (.int 18)))) aNil))) (aCons (e2 gMod (eV 0) (eC (.int 2147483629))) (aCons (eC (.int 0)) aNil)))))
def F__law_deck : List D → FR := runF 1 B__law_deck
def B__law_take_v3 : M Fl := (sSeq (sPutW 0 (e2 gAdd (eIxW 0 (eC (.int 2))) (eC (.int 1))) (eC (.int 2)))
  (sSeq (sIf (tB (e2 gGt (eIxW 0 (eC (.int 0))) (eC (.int 0)))) (sSeq (sSet 3 (e2 gMod (eIxW 0 (eC (.int 0))) (eC (.int 65536))))
  (sSeq (sPutW 0 (e2 gFdiv (eIxW 0 (eC (.int 0))) (eC (.int 65536))) (eC (.int 0)))
  (sRet (e2 gMod (eV 3) (eV 1))))) sSkip)
  (sSeq (sSet 2 (e2 gMod (e2 gMul (e2 gAdd (eIxW 0 (eC (.int 1))) (e2 gMul (eC (.int 7919)) (eIxW 0 (eC (.int 2))))) (eC (.int 48271))) (eC (.int 2147483647))))
  (sSeq (sSet 2 (e2 gMod (e2 gMul (eV 2) (eV 2)) (eC (.int 2147483629))))
  (sRet (e2 gMod (e2 gFdiv (e2 gMod (e2 gMul (e2 gAdd (eV 2) (e2 gMul (eC (.int 40692)) (eIxW 0 (eC (.int 2))))) (eC (.int 69621))) (eC (.int 2147483563))) (eC (.int 8))) (eV 1)))))))
def F__law_take_v3 : List D → FR := runF 4 B__law_take_v3
def B__law_letters_v3 : M Fl := (sSeq (sSet 1 (eC (.str (Str.ofString "abcdefghijklmnopqrstuvwxyz"))))
  (sSeq (sSet 2 (eCallW F__law_take_v3 0 (aCons (eC (.int 26)) aNil)))
  (sSeq (sSet 3 (e2 gIx (eN gLst (aCons (eC (.int 1)) (aCons (eC (.int 3)) (aCons (eC (.int 5)) (aCons (eC (.int 7)) (aCons (eC (.int 9)) (aCons (eC (.int 11)) (aCons (eC (.int 15)) (aCons (eC (.int 17)) (aCons (eC (.int 19)) (aCons (eC (.int 21)) (aCons (eC (.int 23)) (aCons (eC (.int 25)) aNil))))))))))))) (eCallW F__law_take_v3 0 (aCons (eC (.int 12)) aNil))))
  (sSeq (sSet 4 (e2 gIx (eN gLst (aCons (eC (.int 2)) (aCons (eC (.int 2)) (aCons (eC (.int 3)) (aCons (eC (.int 26)) (aCons (eC (.int 26)) (aCons (eC (.int 1)) aNil))))))) (eCallW F__law_take_v3 0 (aCons (eC (.int 6)) aNil))))
  (sRet (eF (eLc [5] (iN gR1 (aCons (eV 4) aNil)) (tgN 5) tTrue (e2 gIx (eV 1) (e2 gMod (e2 gAdd (eV 2) (e2 gMul (eV 3) (eV 5))) (eC (.int 26)))))))))))
def F__law_letters_v3 : List D → FR := runF 6 B__law_letters_v3
def B__law_signs_v3 : M Fl := (sRet (eF (eLc [3] (iN gR1 (aCons (eV 2) aNil)) (tgN 3) tTrue (e2 gIx (eV 1) (eCallW F__law_take_v3 0 (aCons (eN gLen (aCons (eV 1) aNil)) aNil))))))
def F__law_signs_v3 : List D → FR := runF 4 B__law_signs_v3
def B__law_word_v4 : M Fl := (sSeq (sSet 3 (eCallW F__law_take_v3 0 (aCons (eC (.int 4)) aNil)))
  (sSeq (sSet 4 (eCallW F__law_signs_v3 0 (aCons (eV 1) (aCons (e2 gAdd (eC (.int 1)) (eCallW F__law_take_v3 0 (aCons (eV 2) aNil))) aNil))))
  (sSeq (sIf (tB (e2 gEq (eV 3) (eC (.int 1)))) (sSet 4 (e2 gAdd (e2 gAdd (eV 4) (eCallW F__law_signs_v3 0 (aCons (eV 1) (aCons (eCallW F__law_take_v3 0 (aCons (eC (.int 3)) aNil)) aNil)))) (eV 4))) sSkip)
  (sSeq (sIf (tB (e2 gEq (eV 3) (eC (.int 2)))) (sSet 4 (e2 gAdd (e2 gMul (eV 4) (e2 gAdd (eC (.int 1)) (eCallW F__law_take_v3 0 (aCons (eC (.int 3)) aNil)))) (eSl (eV 4) oNone (oSome (eCallW F__law_take_v3 0 (aCons (e2 gAdd (eN gLen (aCons (eV 4) aNil)) (eC (.int 1))) aNil)))))) sSkip)
  (sRet (eV 4))))))
def F__law_word_v4 : List D → FR := runF 5 B__law_word_v4
def B__law_overlaid_v2_l1 : M Fl := (sSeq (sSet 6 (eLc [8] (iN gR1 (aCons (eN gLen (aCons (eV 2) aNil)) aNil)) (tgN 8) (tOr2 (tB (e2 gEq (eV 8) (eC (.int 0)))) (tB (e2 gEq (eSl (eV 4) (oSome (e2 gSub (eN gLen (aCons (eV 4) aNil)) (eV 8))) oNone) (eSl (eV 2) oNone (oSome (eV 8)))))) (eV 8)))
  (sSeq (sSet 7 (e2 gIx (eV 6) (eCallW F__law_take_v3 0 (aCons (eN gLen (aCons (eV 6) aNil)) aNil))))
  (sSeq (sIf (tB (e2 gEq (eCallW F__law_take_v3 0 (aCons (eC (.int 8)) aNil)) (eC (.int 0)))) (sSeq (sSet 4 (e2 gAdd (eV 4) (eCallW F__law_signs_v3 0 (aCons (eV 1) (aCons (eC (.int 1)) aNil)))))
  (sSet 7 (eC (.int 0)))) sSkip)
  (sSet 4 (eF (e2 gAdd (eV 4) (eSl (eV 2) (oSome (eV 7)) oNone)))))))
def B__law_overlaid_v2 : M Fl := (sSeq (sSet 4 (eF (eN gList1 (aCons (eV 2) aNil))))
  (sSeq (sFor (iN gR1 (aCons (eV 3) aNil)) (tgN 5) B__law_overlaid_v2_l1)
  (sRet (eV 4))))
def F__law_overlaid_v2 : List D → FR := runF 9 B__law_overlaid_v2
def B__law_bent : M Fl := (sSeq (sSet 3 (eCallW F__law_take_v3 0 (aCons (e2 gAdd (eN gLen (aCons (eV 2) aNil)) (eC (.int 1))) aNil)))
  (sSeq (sSet 4 (eCallW F__law_take_v3 0 (aCons (eC (.int 3)) aNil)))
  (sSeq (sIf (tB (e2 gEq (eV 4) (eC (.int 0)))) (sRet (eF (e2 gAdd (eSl (eV 2) oNone (oSome (eV 3))) (eSl (eV 2) (oSome (e2 gAdd (eV 3) (eC (.int 1)))) oNone)))) sSkip)
  (sRet (eF (e2 gAdd (e2 gAdd (eSl (eV 2) oNone (oSome (eV 3))) (eCallW F__law_signs_v3 0 (aCons (eV 1) (aCons (eC (.int 1)) aNil)))) (eSl (eV 2) (oSome (e2 gSub (e2 gAdd (eV 3) (eC (.int 2))) (eV 4))) oNone)))))))
def F__law_bent : List D → FR := runF 5 B__law_bent
def T__law_pair_l1 : M Bool := (tB (e2 gLt (eN gLen (aCons (eV 4) aNil)) (eC (.int 200))))
def B__law_pair_l2 : M Fl := (sSet 4 (e2 gAdd (eV 4) (eV 4)))
def B__law_pair : M Fl := (sSeq (sSet 2 (eCallW F__law_letters_v3 0 aNil))
  (sSeq (sSet 3 (eCallW F__law_word_v4 0 (aCons (eV 2) (aCons (e2 gIx (eN gLst (aCons (eC (.int 3)) (aCons (eC (.int 6)) (aCons (eC (.int 12)) aNil)))) (eCallW F__law_take_v3 0 (aCons (eC (.int 3)) aNil))) aNil))))
  (sSeq (sSet 4 (eCallW F__law_overlaid_v2 0 (aCons (eV 2) (aCons (eV 3) (aCons (eCallW F__law_take_v3 0 (aCons (eC (.int 5)) aNil)) aNil)))))
  (sSeq (sIf (tAnd2 (tTr (eV 1)) (tB (e2 gEq (eCallW F__law_take_v3 0 (aCons (eC (.int 16)) aNil)) (eC (.int 3))))) (sSeq (sSet 4 (eCallW F__law_overlaid_v2 0 (aCons (eV 2) (aCons (eV 3) (aCons (eC (.int 20)) aNil)))))
  (sWhile T__law_pair_l1 B__law_pair_l2 WFUEL)) sSkip)
  (sSeq (sSet 5 (eCallW F__law_take_v3 0 (aCons (e2 gIx (eN gLst (aCons (eC (.int 1)) (aCons (e2 gAdd (eN gLen (aCons (eV 3) aNil)) (eC (.int 1))) aNil))) (eCallW F__law_take_v3 0 (aCons (eC (.int 2)) aNil))) aNil)))
  (sSeq (sSet 6 (eCallW F__law_take_v3 0 (aCons (e2 gIx (eN gLst (aCons (eC (.int 1)) (aCons (e2 gAdd (eN gLen (aCons (eV 3) aNil)) (eC (.int 1))) aNil))) (eCallW F__law_take_v3 0 (aCons (eC (.int 2)) aNil))) aNil)))
  (sSeq (sSet 4 (eSl (eSl (eV 4) (oSome (eV 5)) oNone) oNone (oSome (eC (.int 200)))))
  (sSeq (sSet 4 (eSl (eV 4) oNone (oSome (e2 gSub (eN gLen (aCons (eV 4) aNil)) (eN gMin2 (aCons (eV 6) (aCons (eN gLen (aCons (eV 4) aNil)) aNil)))))))
  (sSeq (sIf (tB (e2 gEq (eCallW F__law_take_v3 0 (aCons (eC (.int 4)) aNil)) (eC (.int 0)))) (sSet 4 (eSl (eCallW F__law_bent 0 (aCons (eV 2) (aCons (eV 4) aNil))) oNone (oSome (eC (.int 200))))) sSkip)
  (sSeq (sIf (tB (e2 gEq (eCallW F__law_take_v3 0 (aCons (eC (.int 6)) aNil)) (eC (.int 0)))) (sSet 3 (eCallW F__law_bent 0 (aCons (eV 2) (aCons (eV 3) aNil)))) sSkip)
  (sRet (eN gTupD (aCons (eOrT (eV 4) (eSl (eV 2) oNone (oSome (eC (.int 1))))) (aCons (eOrT (eV 3) (eSl (eV 2) oNone (oSome (eC (.int 1))))) aNil))))))))))))))
def F__law_pair : List D → FR := runF 7 B__law_pair
def B__law_stir : M Fl := (sSeq (sSet 2 (e2 gAdd (e2 gAdd (e2 gMod (eV 0) (e2 gPow (eC (.int 10)) (eC (.int 60)))) (e2 gMul (eC (.int 3)) (eV 1))) (eC (.int 1))))
  (sRet (e2 gMod (e2 gFdiv (e2 gMul (e2 gMul (eV 2) (e2 gAdd (eV 2) (e2 gMul (eC (.int 2)) (eV 1)))) (e2 gAdd (eV 2) (eC (.int 5)))) (eC (.int 7))) (e2 gPow (eC (.int 10)) (eC (.int 40))))))
def F__law_stir : List D → FR := runF 3 B__law_stir
def B__law_digit : M Fl := (sSeq (sIf (tB (e2 gGe (eV 0) (e2 gPow (eC (.int 10)) (eC (.int 18))))) (sRet (e2 gMod (e2 gMod (e2 gShr (eV 0) (e2 gMul (eC (.int 16)) (eV 1))) (eC (.int 65536))) (eV 2))) sSkip)
  (sRet (e2 gMod (eCall F__law_stir (aCons (eV 0) (aCons (eV 1) aNil))) (eV 2))))
def F__law_digit : List D → FR := runF 3 B__law_digit
def B__law_overlaid_l1 : M Fl := (sSet 5 (eF (e2 gAdd (eV 5) (eSl (eV 0) (oSome (e2 gSub (eN gLen (aCons (eV 0) aNil)) (e2 gIx (eV 4) (eCall F__law_digit (aCons (eV 1) (aCons (e2 gAdd (eV 2) (eV 6)) (aCons (eN gLen (aCons (eV 4) aNil)) aNil))))))) oNone))))
def B__law_overlaid : M Fl := (sSeq (sSet 4 (eLc [7] (iN gR2 (aCons (eC (.int 1)) (aCons (e2 gAdd (eN gLen (aCons (eV 0) aNil)) (eC (.int 1))) aNil))) (tgN 7) (tB (e2 gEq (eSl (eV 0) (oSome (eV 7)) oNone) (eSl (eV 0) oNone (oSome (e2 gSub (eN gLen (aCons (eV 0) aNil)) (eV 7)))))) (eV 7)))
  (sSeq (sSet 5 (eF (eN gList1 (aCons (eV 0) aNil))))
  (sSeq (sFor (iN gR1 (aCons (eV 3) aNil)) (tgN 6) B__law_overlaid_l1)
  (sRet (eV 5)))))
def F__law_overlaid : List D → FR := runF 8 B__law_overlaid
end Ov
namespace MV
open PySem PySem.Spec PyProof.Rows L2
def PostO (cf : Cf) (W : WX) (R : Rs) (Hs : Hp) (i : Nat) (D : Ends) : Res Fl → Prop
  | .ok (.rt d) env' => ∀ v Hs' σ' H' F' wf', Ex Hs Hs' → Rel cf R Hs' env' σ' H' F' wf' → Own cf.K (TH (rs Hs' R.H0)) H' (F' i) v d → D.rt v H'
  | .ok .nx env' => ∀ Hs' σ' H' F' wf', Ex Hs Hs' → Rel cf R Hs' env' σ' H' F' wf' → D.nx σ' H'
  | .ex x env' => ∀ Hs' σ' H' F' wf', Ex Hs Hs' → Rel cf R Hs' env' σ' H' F' wf' → W (cf.cv x) none σ' H'
  | _ => False
theorem PostO.mono {cf : Cf} {W : WX} {R : Rs} {i : Nat} {Hs Hs' : Hp} {D : Ends} (e : Ex Hs Hs') : ∀ {g : Res Fl}, PostO cf W R Hs i D g → PostO cf W R Hs' i D g
  | .ok (.rt d) _, h => fun v Hs2 σ' H' F' wf' e2 r o => h v Hs2 σ' H' F' wf' (e.trans e2) r o
  | .ex _ _, h => fun Hs2 σ' H' F' wf' e2 r => h Hs2 σ' H' F' wf' (e.trans e2) r
  | .ok .nx _, h => fun Hs2 σ' H' F' wf' e2 r => h Hs2 σ' H' F' wf' (e.trans e2) r
  | .ok .bk _, h => h.elim
  | .ok .ct _, h => h.elim
  | .stuck, h => h.elim
section
variable {X : Cx} {cf : Cf} {W : WX} {c : Cls} {n n1 n2 : Bool} {i j : Nat}
end
section
variable {P : Program} {w : World} {K : PySem.W.Frag} {mg : Str → Option Value} {base : Heap}
end
end MV
namespace MV
open PySem PySem.Spec PyProof.Rows L2
def PostB (cf : Cf) (W : WX) (R : Rs) (Hs : Hp) (j : Nat) (σ : L2.St) (p : Addr) (xs : List V) (F : Nat → List Addr) (wf : List Addr) (D : Ends) : Res Fl → Prop
  | .ok .nx env' => ∀ Hs' H', Ex Hs Hs' → Rel cf R Hs' env' σ H' F wf → H' p = some (.lst xs) → env'[j]? = some none → D.nx σ H'
  | .ok (.rt d) env' => ∀ v Hs' H', Ex Hs Hs' → Rel cf R Hs' env' σ H' F wf → Rp cf.K true (rs (rm H' wf) R.H0) v d → D.rt v H'
  | .ex x env' => ∀ Hs' H', Ex Hs Hs' → Rel cf R Hs' env' σ H' F wf → W (cf.cv x) none σ H'
  | _ => False
theorem PostB.mono {cf : Cf} {W : WX} {R : Rs} {Hs Hs' : Hp} {j : Nat} {σ : L2.St} {p : Addr} {xs : List V} {F : Nat → List Addr} {wf : List Addr} {D : Ends} (e : Ex Hs Hs') : ∀ {g : Res Fl}, PostB cf W R Hs j σ p xs F wf D g → PostB cf W R Hs' j σ p xs F wf D g
  | .ok .nx _, h => fun Hs2 H' e2 r => h Hs2 H' (e.trans e2) r
  | .ok (.rt d) _, h => fun v Hs2 H' e2 r => h v Hs2 H' (e.trans e2) r
  | .ex _ _, h => fun Hs2 H' e2 r => h Hs2 H' (e.trans e2) r
  | .ok .bk _, h => h.elim
  | .ok .ct _, h => h.elim
  | .stuck, h => h.elim
section
variable {cf : Cf} {R : Rs} {Hs H : Hp} {env : PEnv} {σ : L2.St} {F : Nat → List Addr} {wf : List Addr}
theorem Rel.drop (r : Rel cf R Hs env σ H F wf) {j : Nat} (hw : cf.kd j ≠ .W) : Rel cf R Hs (env.set j none) σ H F wf where
  len := by rw [List.length_set]; exact r.len
  exs := r.exs
  ex0 := r.ex0
  dom0 := r.dom0
  slot := fun i d h => by
    rcases get_set h with ⟨rfl, e, hl⟩ | ⟨ne, h⟩
    · cases e
    · exact r.slot i d h
  nod := r.nod
  dis := r.dis
  fdom := r.fdom
  uns := r.uns
  new := r.new
  volw := r.volw
  volb := r.volb
  wdom := r.wdom
  ior := fun p h => by
    obtain ⟨h1, h2, h3, d', h4⟩ := r.ior p h
    have ne : j ≠ 0 := fun e => by subst e; exact hw h3
    exact ⟨h1, h2, h3, d', by rw [List.getElem?_set_ne ne]; exact h4⟩
theorem Rel.any (r : Rel cf R Hs env σ H F wf) {j : Nat} {v : V} (hj : env[j]? = some none) (hw : cf.kd j ≠ .W) : Rel cf R Hs env (σ.set j (some v)) H F wf where
  len := by rw [List.length_set]; exact r.len
  exs := r.exs
  ex0 := r.ex0
  dom0 := r.dom0
  slot := fun i d h => by
    have ne : j ≠ i := fun e => by subst e; rw [hj] at h; cases h
    obtain ⟨w, h1, h2⟩ := r.slot i d h
    exact ⟨w, by rw [List.getElem?_set_ne ne]; exact h1, h2⟩
  nod := r.nod
  dis := r.dis
  fdom := r.fdom
  uns := r.uns
  new := r.new
  volw := r.volw
  volb := r.volb
  wdom := r.wdom
  ior := fun p h => by
    obtain ⟨h1, h2, h3, d', h4⟩ := r.ior p h
    have ne : j ≠ 0 := fun e => by subst e; exact hw h3
    exact ⟨by rw [List.getElem?_set_ne ne]; exact h1, h2, h3, d', h4⟩
end
section
variable {X : Cx} {cf : Cf} {W : WX} {c : Cls} {n n1 n2 : Bool} {i j : Nat}
end
end MV
namespace Ov
open PySem MV
end Ov
namespace MV
open PySem PySem.Spec PyProof.Rows L2
section
variable {cf : Cf} {R : Rs} {Hs : Hp} {env : PEnv} {σ : L2.St} {H : Hp} {F : Nat → List Addr} {wf : List Addr}
theorem Rel.ext {env1 : PEnv} {Hs1 H1 : Hp} (r : Rel cf R Hs env σ H F wf) (s1 : Stp cf wf env Hs H env1 Hs1 H1) (r1 : Rel cf R Hs1 env1 σ H1 F wf) {i : Nat} {p : Addr} {o' : HO} {v : V} {d0 d' : D} {Fn : List Addr} (hw : cf.kd i ≠ .W) (hp : p ∈ F i) (he : env1[i]? = some (some d0)) (hv : σ[i]? = some (some v))
    (hn : Fn.Nodup) (hnew : ∀ a ∈ Fn, H a = none ∧ H1 a ≠ none) (hs : SlotR cf.K R (rm Hs1 Fn) (upd H1 p o') (F i ++ Fn) (cf.kd i) v d') : Rel cf R (rm Hs1 Fn) (env1.set i (some d')) σ (upd H1 p o') (fun j => if j = i then F i ++ Fn else F j) wf ∧ Ex Hs (rm Hs1 Fn) := by
  have old : ∀ a, H a ≠ none → a ∉ Fn := fun a h m => h (hnew a m).1
  have exs : Ex Hs (rm Hs1 Fn) := fun a o h => by
    have : a ∉ Fn := old a (by rw [r.exs a o h]; exact fun z => by cases z)
    unfold rm
    rw [if_neg this]
    exact s1.ex a o h
  have sub : Ex (rm Hs1 Fn) Hs1 := rm_sub _ _
  have pS : Hs1 p = none := r1.uns i p hp
  have hu : ∀ a, H1 a ≠ none → upd H1 p o' a ≠ none := fun a h => by
    by_cases e : a = p
    · subst e; rw [upd_same]; exact fun z => by cases z
    · rw [upd_ne e]; exact h
  have memE : ∀ {j : Nat} {a : Addr}, a ∈ (if j = i then F i ++ Fn else F j) → a ∈ F j ∨ (j = i ∧ a ∈ Fn) := fun {j a} m => by
    by_cases e : j = i
    · subst e; rw [if_pos rfl] at m; exact (List.mem_append.mp m).imp id fun m => ⟨rfl, m⟩
    · rw [if_neg e] at m; exact .inl m
  refine ⟨?_, exs⟩
  constructor
  case len => rw [List.length_set]; exact r1.len
  case exs =>
    intro a o h
    have h := sub a o h
    rw [upd_ne (fun e => by subst e; rw [pS] at h; cases h)]
    exact r1.exs a o h
  case ex0 => exact fun a o h n => exs a o (r.ex0 a o h n)
  case dom0 => exact fun a h => hu a (r1.dom0 a h)
  case slot =>
    intro j d'' h
    rcases get_set h with ⟨rfl, e, hl⟩ | ⟨ne, h⟩
    · cases e
      exact ⟨v, hv, by rw [if_pos rfl]; exact hs⟩
    · obtain ⟨w, h1, h2⟩ := r1.slot j d'' h
      refine ⟨w, h1, ?_⟩
      rw [if_neg (Ne.symm ne)]
      have np : ∀ a ∈ F j, a ≠ p := fun a m e => by subst e; exact r.dis i j ne _ hp m
      by_cases hw : cf.kd j = .W
      · rw [hw] at h2 ⊢
        obtain ⟨p2, xs, ds, e1, e2, e3, e4, e5⟩ := h2
        exact ⟨p2, xs, ds, e1, e2, e3, by rw [upd_ne (np p2 (by rw [e3]; exact List.mem_singleton.mpr rfl))]; exact e4, e5⟩
      · have h' : env[j]? = some (some d'') := by rw [← s1.kp j hw]; exact h
        obtain ⟨w0, g1, g2⟩ := r.slot j d'' h'
        have ew : w0 = w := by rw [g1] at h1; cases h1; rfl
        subst ew
        have kp : ∀ a ∈ F j, ∀ o, H a = some o → upd H1 p o' a = some o := fun a m o ha => by
          rw [upd_ne (np a m)]; exact s1.keep a o (r.volb j hw a m) ha
        cases q : cf.kd j with
        | S => rw [q] at g2; exact Rp.mono exs g2
        | N => rw [q] at g2; exact Rp.mono (rs_mono exs) g2
        | Q => rw [q] at g2; exact Rp.mono exs g2
        | P => rw [q] at g2; exact Own.keep (th_mono (rs_mono exs)) g2 kp
        | M => rw [q] at g2; exact ⟨Own.keep (rs_mono exs) g2.1 kp, g2.2⟩
        | W => exact absurd q hw
  case nod =>
    intro j
    by_cases e : j = i
    · rw [if_pos e]
      exact List.nodup_append.mpr ⟨r.nod i, hn, fun a m b m2 e => by subst e; exact r.fdom i a m (hnew a m2).1⟩
    · rw [if_neg e]; exact r.nod j
  case dis =>
    intro j k ne a m m2
    rcases memE m with m | ⟨e, m⟩
    · rcases memE m2 with m2 | ⟨e2, m2⟩
      · exact r.dis j k ne a m m2
      · exact r.fdom j a m (hnew a m2).1
    · rcases memE m2 with m2 | ⟨e2, m2⟩
      · exact r.fdom k a m2 (hnew a m).1
      · exact ne (e.trans e2.symm)
  case fdom =>
    intro j a m
    rcases memE m with m | ⟨e, m⟩
    · exact hu a (r1.fdom j a m)
    · exact hu a (hnew a m).2
  case uns =>
    intro j a m
    rcases memE m with m | ⟨e, m⟩
    · unfold rm
      split
      · rfl
      · exact r1.uns j a m
    · unfold rm; rw [if_pos m]
  case new =>
    intro j a m
    rcases memE m with m | ⟨e, m⟩
    · exact r.new j a m
    · refine .inr ?_
      cases q : R.H0 a with
      | none => rfl
      | some o => exact absurd (hnew a m).1 (r.dom0 a (by rw [q]; exact fun z => by cases z))
  case volw =>
    intro j hk a m
    rcases memE m with m | ⟨e, m⟩
    · exact r.volw j hk a m
    · subst e; exact absurd hk hw
  case volb =>
    intro j hk a m z
    rcases memE m with m | ⟨e, m⟩
    · exact r.volb j hk a m z
    · exact (r.wdom a z).1 (hnew a m).1
  case wdom =>
    intro a m
    obtain ⟨g1, g2⟩ := r1.wdom a m
    refine ⟨hu a g1, ?_⟩
    unfold rm
    split
    · rfl
    · exact g2
  case ior =>
    intro q h
    obtain ⟨h1, h2, h3, d2, h4⟩ := r1.ior q h
    have ne : (0 : Nat) ≠ i := fun e => by subst e; exact hw h3
    exact ⟨h1, by rw [if_neg ne]; exact h2, h3, d2, by rw [List.getElem?_set_ne (Ne.symm ne)]; exact h4⟩
end
def ND (T : Hp) : Prop := ∀ a kvs, ¬ Rd T a (.dT kvs)
theorem nd_th {G : Hp} : ND (TH G) := fun a kvs h => by
  rcases h with h | ⟨o, h⟩
  · obtain ⟨_, e, _⟩ := th_some h; cases e
  · obtain ⟨_, e, _⟩ := th_some h; cases e
theorem Own.ditP {K : PySem.W.Frag} {T H : Hp} {F : List Addr} {v : V} {kvs : List (List Key × D)} (hT : ND T) (h : Own K T H F v (.dit kvs)) : ∃ p F' kvs', v = .ref p ∧ F = p :: F' ∧ H p = some (.dT kvs') ∧ kvs'.map (·.1) = kvs.map (·.1) ∧ OwnL K T H F' (kvs'.map (·.2)) (kvs.map (·.2)) := by
  generalize e : D.dit kvs = d at h
  cases h with
  | leaf h => subst e; obtain ⟨a, _, _, q, _⟩ := h.dit_inv; exact (hT a _ q).elim
  | dit h5 l h6 =>
    cases e
    rename_i p F' ks vs ds
    have l2 : ks.length = ds.length := l.trans h6.length
    refine ⟨p, F', _, rfl, rfl, h5, ?_, ?_⟩
    · rw [List.map_fst_zip (by omega), List.map_fst_zip (by omega)]
    · rw [List.map_snd_zip (by omega), List.map_snd_zip (by omega)]; exact h6
  | _ => cases e
theorem Own.ditP_mk {K : PySem.W.Frag} {Hn H : Hp} {p : Addr} {F : List Addr} {kvs' : List (List Key × V)} {kvs : List (List Key × D)} (h : H p = some (.dT kvs')) (h1 : kvs'.map (·.1) = kvs.map (·.1)) (h2 : OwnL K Hn H F (kvs'.map (·.2)) (kvs.map (·.2))) : Own K Hn H (p :: F) (.ref p) (.dit kvs) := by
  have := Own.dit (K := K) (Hn := Hn) (H := H) (p := p) (F := F) (ks := kvs.map (·.1)) (vs := kvs'.map (·.2)) (ds := kvs.map (·.2)) (by rw [← h1, zip_fs]; exact h) (by rw [← h1, List.length_map, List.length_map]) h2
  rw [zip_fs] at this
  exact this
mutual
def D.tuo : D → Bool
  | .tup ds => tuoL ds
  | d => d.sc
def tuoL : List D → Bool
  | [] => true
  | d :: ds => D.tuo d && tuoL ds
end
mutual
theorem Rp.th {K : PySem.W.Frag} {G : Hp} : ∀ {v : V} {d : D}, Rp K true G v d → d.tuo = true → Rp K true (TH G) v d
  | _, _, .sc h, _ => .sc h
  | _, _, .tup h r, t => .tup (th_tup h) (RpL.th r (by rw [D.tuo] at t; exact t))
  | _, _, .lst h r, t => by rw [D.tuo] at t; · cases t
                            · intro _ z; cases z
  | _, _, .dic h l r, t => by rw [D.tuo] at t; · cases t
                              · intro _ z; cases z
  | _, _, .dit h l r, t => by rw [D.tuo] at t; · cases t
                              · intro _ z; cases z
  | _, _, .exc h, t => by rw [D.tuo] at t; · cases t
                          · intro _ z; cases z
theorem RpL.th {K : PySem.W.Frag} {G : Hp} : ∀ {vs : List V} {ds : List D}, RpL K true G vs ds → tuoL ds = true → RpL K true (TH G) vs ds
  | _, _, .nil, _ => .nil
  | _, _, .cons h r, t => by
    rw [tuoL, Bool.and_eq_true] at t
    exact .cons (Rp.th h t.1) (RpL.th r t.2)
end
section
variable {X : Cx} {cf : Cf} {W : WX} {c : Cls} {n n1 n2 : Bool}
theorem ss_setDT {i : Nat} {x : Str} {p2 pos' pos : Pos} (hk : cf.kd i = .M ∨ cf.kd i = .P) (hN : X.N.Nodup) (hi : X.N[i]? = some x) (hx : Loc X.env.scope x) (hs : swapsWith (.Dict [] [] p2) (some (.Name x pos')) pos.line X.env = pure false := by rfl) (hf : X.fn x = true ∨ X.env.scope.names.lookup x = some .local := by first | exact .inl rfl | exact .inr rfl | assumption) :
    SS X cf W (.Assign [.Name x pos'] (.Dict [] [] p2) pos) (sSetD i (eN gDNewT aNil)) := by
  refine ⟨_, ps_set hN hi hx pe_dnewT hs hf, fun R Hs env σ H F wf r D hp => ?_⟩
  have hp : Post cf W R Hs D (.ok .nx (env.set i (some (.dit [])))) := hp
  have hw : cf.kd i ≠ .W := by rcases hk with hk | hk <;> rw [hk] <;> exact fun z => by cases z
  show ∀ p, H p = none → gName i (.ref p) σ (upd H p (.dT [])) D.nx
  intro p np
  have x0 : Ex H (upd H p (.dT [])) := Ex.new np
  obtain ⟨r2, e2⟩ := r.own (Stp.grow r.exs x0) (r.grow x0) (i := i) (v := .ref p) (d := .dit []) (Fn := [p]) (wf' := wf) (fun hh e => by
      cases z : R.io with
      | none => exact hh z
      | some q =>
        obtain ⟨_, _, h3, _⟩ := r.ior q z
        exact hw (by rw [e]; exact h3)) (by simp)
    (fun b m => by
      rw [List.mem_singleton.mp m]
      exact ⟨np, by rw [upd_same]; exact fun z => by cases z⟩)
    (fun b => ⟨.inl, fun z => z.elim id fun z => absurd z.1 hw⟩)
    (by
      have o : ∀ G, Own cf.K G (upd H p (.dT [])) [p] (.ref p) (.dit []) := fun G => Own.dit (ks := []) (vs := []) (ds := []) upd_same rfl .nil
      rcases hk with hk | hk
      · rw [hk]; exact ⟨o _, fun z => (by cases z), Nat.le_refl _⟩
      · rw [hk]; exact o _)
  exact hp _ _ _ _ wf e2 r2
def ditAt (i : Nat) (e : PEnv) : Option (List (List Key × D)) := match e[i]? with
  | some (some (.dit kvs)) => some kvs
  | _ => none
theorem ditAt_some {i : Nat} {e : PEnv} {kvs : List (List Key × D)} (h : ditAt i e = some kvs) : e[i]? = some (some (.dit kvs)) := by
  unfold ditAt at h
  split at h
  · rename_i q; cases h; exact q
  · cases h
def keyT : D → Option (List Key)
  | .tup ks => keysD ks
  | _ => none
theorem keyT_some {d : D} {kk : List Key} (h : keyT d = some kk) : ∃ ks, d = .tup ks ∧ keysD ks = some kk := by
  cases d <;> first | cases h | exact ⟨_, rfl, h⟩
def newK (kvs : List (List Key × D)) (k : D) : Option (List Key) := (keyT k).bind fun kk => if (kvs.any fun kv => decide (kv.1 = kk)) = false ∧ kvs.length < LIM then some kk else none
def sDPE (i : Nat) (fk : M D) : M Fl := fun e => match ditAt i e with
  | none => .stuck
  | some kvs => bnd fk (fun k => fun e => match newK kvs k with
    | some kk => .ok .nx (e.set i (some (.dit (kvs ++ [(kk, .lst [])]))))
    | none => .stuck) e
theorem ss_dputE {i : Nat} {o ix : Expr} {ti : TE} {fi : M D} {spos lpos pos : Pos} (hu : X.A.units + 64 < cLine) (po : PE X o (tVar i)) (hk : cf.kd i = .P) (hi : SE X cf W c n1 ix ti fi)
    (hs : swapsWith (.List [] lpos) (some (.Subscript o ix spos)) pos.line X.env = pure false := by rfl) : SS X cf W (.Assign [.Subscript o ix spos] (.List [] lpos) pos) (sDPE i fi) := by
  refine ⟨_, ps_dput (by omega) po hi.p (pe_lst pa_nil) hs, fun R Hs env σ H F wf r D hp => ?_⟩
  unfold sDPE at hp
  have hw : cf.kd i ≠ .W := by rw [hk]; exact fun z => by cases z
  cases q0 : ditAt i env with
  | none => simp only [q0] at hp; exact hp.elim
  | some kvs =>
    simp only [q0] at hp
    have qe := ditAt_some q0
    obtain ⟨v, hv, hsl⟩ := r.slot i _ qe
    rw [hk] at hsl
    obtain ⟨p, F', kvs0, rfl, hF, hp0, hk0, ho0⟩ := hsl.ditP nd_th
    have hpF : p ∈ F i := by rw [hF]; exact List.mem_cons_self
    refine ⟨Nat.zero_le _, fun q hq => ?_⟩
    -- the new list
    have x0 : Ex H (upd H q (.lst [])) := Ex.new hq
    have s0 : Stp cf wf env Hs H env (grow Hs H (upd H q (.lst []))) (upd H q (.lst [])) := Stp.grow r.exs x0
    have r0 := r.grow x0
    refine ⟨.ref p, hv, ?_⟩
    have hi0 := hi.s R _ env σ _ F wf r0 fun vk H2 => ∃ a H4, V.ref p = .ref a ∧ DPut H2 a vk (.ref q) H4 ∧ D.nx σ H4
    unfold bnd at hp
    cases qf : fi env with
    | stuck => rw [qf] at hp; exact hp.elim
    | ex x env2 => rw [qf] at hi0 hp; exact hi0 fun Hs2 H2 s2 r2 => hp Hs2 σ H2 F wf (s0.ex.trans s2.ex) r2
    | ok k env2 =>
    rw [qf] at hi0 hp
    refine hi0 fun vk Hs2 H2 s2 r2 p2 _ => ?_
    simp only at hp
    cases qn : newK kvs k with
    | none => simp only [qn] at hp; exact hp.elim
    | some kk =>
      simp only [qn] at hp
      unfold newK at qn
      obtain ⟨kk', q1, q2⟩ := Option.bind_eq_some_iff.mp qn
      split at q2
      · rename_i hc
        cases q2
        obtain ⟨ks, rfl, q1⟩ := keyT_some q1
        obtain ⟨b, ys, rfl, t1, t2⟩ := p2.tup_inv
        have t1 : rg c R.H0 Hs2 _ H2 wf b = some (.tup ys) := t1
        rw [keysD_v t2 q1] at t1
        have s02 := s0.trans s2
        have e2 : env2[i]? = some (some (.dit kvs)) := by rw [s02.kp i hw]; exact qe
        have hp2 : H2 p = some (.dT kvs0) := s02.keep p _ (r.volb i hw p hpF) hp0
        refine ⟨p, _, rfl, .inr ⟨kvs0, kk, b, hp2, rfl, rg_sub r2.exs _ _ t1, by rw [len_of_keys hk0]; exact lim_lt hc.2, rfl⟩, ?_⟩
        have any0 : (kvs0.any fun kv => decide (kv.1 = kk)) = false := by rw [any_rp hk0]; exact hc.1
        have pk : putK kvs0 kk (.ref q) = kvs0 ++ [(kk, .ref q)] := by unfold putK; rw [any0]; exact if_neg (by decide)
        rw [pk]
        have hq2 : H2 q = some (.lst []) := s2.keep q _ (fun m => (r.wdom q m).1 hq) upd_same
        have qp : q ≠ p := fun e => by subst e; rw [hp0] at hq; cases hq
        have hn : q ∉ F i := fun m => r.fdom i q m hq
        obtain ⟨r3, e3⟩ := r.ext s02 r2 (i := i) (p := p) (o' := .dT (kvs0 ++ [(kk, .ref q)])) (v := .ref p) (d0 := .dit kvs) (d' := .dit (kvs ++ [(kk, .lst [])])) (Fn := [q]) hw hpF e2 hv (by simp)
          (fun a m => by rw [List.mem_singleton.mp m]; exact ⟨hq, by rw [hq2]; exact fun z => by cases z⟩)
          (by
            rw [hk, hF]
            have kp : ∀ a ∈ F', ∀ o, H a = some o → upd H2 p (.dT (kvs0 ++ [(kk, .ref q)])) a = some o := fun a m o ha => by
              have ne : a ≠ p := fun e => by
                have nd := r.nod i
                rw [hF] at nd
                subst e
                exact (List.nodup_cons.mp nd).1 m
              rw [upd_ne ne]
              exact s02.keep a o (r.volb i hw a (by rw [hF]; exact List.mem_cons_of_mem _ m)) ha
            have exT : Ex (TH (rs Hs R.H0)) (TH (rs (rm Hs2 [q]) R.H0)) := th_mono (rs_mono fun a o h => by
              have : a ≠ q := fun e => by subst e; rw [r.exs _ _ h] at hq; cases hq
              unfold rm
              rw [if_neg (by simpa using this)]
              exact s02.ex a o h)
            refine Own.ditP_mk (F := F' ++ [q]) upd_same (by simp [hk0]) ?_
            rw [List.map_append, List.map_append]
            exact (ho0.keep exT kp).snoc (.lst (by rw [upd_ne qp]; exact hq2) .nil))
        exact hp _ σ _ _ wf e3 r3
      · cases q2
end
end MV
namespace MV
open PySem PySem.Spec PyProof.Rows L2
def rowK (kvs : List (List Key × D)) (k : D) : Option (Nat × List Key × List D) := (keyT k).bind fun kk => (kvs.findIdx? fun kv => decide (kv.1 = kk)).bind fun j => match kvs[j]? with
  | some (_, .lst es) => some (j, kk, es)
  | _ => none
theorem rowK_some {kvs : List (List Key × D)} {k : D} {j : Nat} {kk : List Key} {es : List D} (h : rowK kvs k = some (j, kk, es)) : keyT k = some kk ∧ (kvs.findIdx? fun kv => decide (kv.1 = kk)) = some j ∧ kvs[j]? = some (kk, .lst es) := by
  unfold rowK at h
  obtain ⟨kk', h1, h⟩ := Option.bind_eq_some_iff.mp h
  obtain ⟨j', h2, h⟩ := Option.bind_eq_some_iff.mp h
  split at h
  · rename_i k2 es' q
    cases h
    refine ⟨h1, h2, ?_⟩
    obtain ⟨hj, hp, _⟩ := List.findIdx?_eq_some_iff_getElem.mp h2
    rw [List.getElem?_eq_getElem hj] at q
    have := of_decide_eq_true hp
    rw [Option.some.inj q] at this
    rw [List.getElem?_eq_getElem hj, Option.some.inj q]
    exact congrArg some (Prod.ext this rfl)
  · cases h
theorem val_at {κ : Type} [DecidableEq κ] {k : κ} : ∀ {kvs : List (κ × D)} {kvs' : List (κ × V)} {j : Nat}, kvs'.map (·.1) = kvs.map (·.1) → (kvs.findIdx? fun kv => decide (kv.1 = k)) = some j → ∃ v, (kvs'.map (·.2))[j]? = some v ∧ valV kvs' k = some v
  | [], _, j, _, h => by simp at h
  | p :: r, [], j, e, h => by cases e
  | p :: r, q :: s, j, e, h => by
    rw [List.map_cons, List.map_cons] at e
    injection e with e1 e2
    rw [List.findIdx?_cons] at h
    by_cases c : p.1 = k
    · rw [if_pos (decide_eq_true c)] at h
      cases h
      have c' : q.1 = k := e1 ▸ c
      exact ⟨q.2, rfl, valV_pos c'⟩
    · rw [if_neg (by simp [c])] at h
      obtain ⟨j', h', rfl⟩ := Option.map_eq_some_iff.mp h
      obtain ⟨v, h1, h2⟩ := val_at e2 h'
      have c' : ¬ q.1 = k := fun z => c (e1 ▸ z)
      exact ⟨v, by simpa using h1, by rw [valV_neg c']; exact h2⟩
def sDApp (i : Nat) (fk f : M D) : M Fl := fun e => match ditAt i e with
  | none => .stuck
  | some kvs => bnd fk (fun k => match rowK kvs k with
    | none => fail
    | some (j, kk, es) => bnd f fun x => fun e => if x.tuo && decide (es.length < LIM) then .ok .nx (e.set i (some (.dit (kvs.set j (kk, .lst (es ++ [x])))))) else .stuck) e
theorem set_keys {κ α : Type} {kvs : List (κ × α)} {j : Nat} {k : κ} {a b : α} (h : kvs[j]? = some (k, a)) : (kvs.set j (k, b)).map (·.1) = kvs.map (·.1) := by
  apply List.ext_getElem?
  intro m
  rw [List.getElem?_map, List.getElem?_map]
  by_cases c : j = m
  · subst c
    rw [List.getElem?_set_self (List.getElem?_eq_some_iff.mp h).1, h]; rfl
  · rw [List.getElem?_set_ne c]
theorem set_vals {κ α : Type} (kvs : List (κ × α)) (j : Nat) (k : κ) (b : α) : (kvs.set j (k, b)).map (·.2) = (kvs.map (·.2)).set j b := by
  rw [List.map_set]
section
variable {X : Cx} {cf : Cf} {W : WX} {c : Cls} {n n1 n2 : Bool}
theorem dit_row {R : Rs} {Hs : Hp} {env : PEnv} {σ : L2.St} {H : Hp} {F : Nat → List Addr} {wf : List Addr} (r : Rel cf R Hs env σ H F wf) {i : Nat} {kvs : List (List Key × D)} {k : D} {j : Nat} {kk : List Key} {es : List D} (hk : cf.kd i = .P) (he : env[i]? = some (some (.dit kvs))) (q : rowK kvs k = some (j, kk, es)) :
    ∃ p kvs0 a ys Fa, σ[i]? = some (some (.ref p)) ∧ H p = some (.dT kvs0) ∧ p ∈ F i ∧ a ∈ F i ∧ a ≠ p ∧ valV kvs0 kk = some (.ref a) ∧ H a = some (.lst ys) ∧ OwnL cf.K (TH (rs Hs R.H0)) H Fa ys es ∧
      ∀ ys' es', (∀ H', (∀ b ∈ Fa, H' b = H b) → OwnL cf.K (TH (rs Hs R.H0)) H' Fa ys' es') → Own cf.K (TH (rs Hs R.H0)) (upd H a (.lst ys')) (F i) (.ref p) (.dit (kvs.set j (kk, .lst es'))) := by
  obtain ⟨q1, q2, q3⟩ := rowK_some q
  obtain ⟨v, hv, hsl⟩ := r.slot i _ he
  rw [hk] at hsl
  obtain ⟨p, F', kvs0, rfl, hF, hp0, hk0, ho0⟩ := hsl.ditP nd_th
  obtain ⟨v, v1, v2⟩ := val_at hk0 q2
  have nd := r.nod i
  rw [hF] at nd
  have nd' := List.nodup_cons.mp nd
  obtain ⟨a, ys, Fa, h1, h2, h3, h4, h5⟩ := ho0.within nl_th nd'.2 j es (by rw [List.getElem?_map, q3]; rfl)
  rw [v1] at h1; cases h1
  have hne : a ≠ p := fun e => nd'.1 (by rw [← e]; exact h3)
  refine ⟨p, kvs0, a, ys, Fa, hv, hp0, by rw [hF]; exact List.mem_cons_self, by rw [hF]; exact List.mem_cons_of_mem _ h3, hne, v2, h2, h4, fun ys' es' hn => ?_⟩
  rw [hF]
  refine Own.ditP_mk (kvs' := kvs0) (by rw [upd_ne (Ne.symm hne)]; exact hp0) (by rw [hk0, set_keys q3]) ?_
  rw [set_vals]
  exact h5 ys' es' hn
theorem ss_dapp {i : Nat} {o ix e : Expr} {ti te : TE} {fi f : M D} {spos apos cpos pos : Pos} (hu : X.A.units + 64 < cLine) (hK : cf.K = X.K) (po : PE X o (tVar i)) (hk : cf.kd i = .P) (hi : SE X cf W c n1 ix ti fi) (h : SE X cf W .N n e te f) (hns : NoSl ix := by intro _ _; rfl)
    (hbase : attributeBase (.Subscript o ix spos) "append" X.env (eval (.Subscript o ix spos) X.env) = eval (.Subscript o ix spos) X.env := by rfl)
    (hfew : ((backTo cpos (starEach [e] X.env)).all (fun x => !x.1) && (backToKw cpos (keywordEach [] X.env)).all (fun x => x.1.isSome) && decide ([e].length + ([] : List Keyword).length + (if ([] : List Keyword).isEmpty then 0 else 1) < 30)) = true := by rfl)
    (hline : (apos.endLine == cpos.line) = true := by rfl) (hs : starEach [e] X.env = (false, eval e X.env) :: starEach [] X.env := by rfl) (hplain : (backTo cpos (starEach [] X.env)).any (·.1) = false := by rfl)
    (hsw : swapsWith (.Call (.Attribute (.Subscript o ix spos) "append" apos) [e] [] cpos) none pos.line X.env = pure false := by rfl) :
    SS X cf W (.Expr (.Call (.Attribute (.Subscript o ix spos) "append" apos) [e] [] cpos) pos) (sDApp i fi f) := by
  refine ⟨_, ps_expr (pe_bm PySem.F.plainAttrs_list PySem.F.slot_list_append PySem.F.type_list_append mt_append (pe_dget (by omega) po hi.p hns) (pa_cons h.p pa_nil hs) hbase hfew hline hs hplain) hsw, fun R Hs env σ H F wf r D hp => ?_⟩
  unfold sDApp at hp
  have hnw : cf.kd i ≠ .W := by rw [hk]; exact fun z => by cases z
  cases q0 : ditAt i env with
  | none => simp only [q0] at hp; exact hp.elim
  | some kvs =>
    simp only [q0] at hp
    have qe := ditAt_some q0
    obtain ⟨v, hv, _⟩ := r.slot i _ qe
    refine ⟨v, hv, ?_⟩
    refine hi.s.bind r hp fun k env1 vk Hs1 H1 s1 r1 p1 _ hp => ?_
    cases qi : rowK kvs k with
    | none => simp only [qi] at hp; exact hp.elim
    | some je =>
      obtain ⟨j, kk, es⟩ := je
      simp only [qi] at hp
      have e1 : env1[i]? = some (some (.dit kvs)) := by rw [s1.kp i hnw]; exact qe
      obtain ⟨p, kvs0, a, ys, Fa, hv1, hp1, hpF, haF, hne, hval, hya, hFa, hup⟩ := dit_row r1 hk e1 qi
      obtain ⟨q1, _, _⟩ := rowK_some qi
      obtain ⟨ks, rfl, q1⟩ := keyT_some q1
      obtain ⟨b, zs, rfl, t1, t2⟩ := p1.tup_inv
      have t1 : rg c R.H0 Hs1 H H1 wf b = some (.tup zs) := t1
      rw [keysD_v t2 q1] at t1
      have ev : v = .ref p := by rw [hv1] at hv; cases hv; rfl
      subst ev
      refine ⟨p, .ref a, rfl, .inr ⟨kvs0, kk, b, .inl hp1, rfl, rg_sub r1.exs _ _ t1, hval.symm⟩, .inl ⟨rfl, ys, .inl (.inl hya)⟩, ?_⟩
      refine h.s.bind r1 (Post.mono s1.ex hp) fun x env2 vx Hs2 H2 s2 r2 p2 _ hp => ?_
      split at hp
      · rename_i hc
        rw [Bool.and_eq_true] at hc
        have e2 : env2[i]? = some (some (.dit kvs)) := by rw [s2.kp i hnw]; exact e1
        obtain ⟨p', kvs0', a2, ys2, Fa2, hv2, hp2, hpF2, haF2, hne2, hval2, hya2, hFa2, hup2⟩ := dit_row r2 hk e2 qi
        have ep : p' = p := by rw [hv1] at hv2; cases hv2; rfl
        subst ep
        have ek : kvs0' = kvs0 := by
          have := s2.keep p' _ (r1.volb i hnw p' hpF) hp1
          rw [this] at hp2; cases hp2; rfl
        subst ek
        have ea : a2 = a := by rw [hval] at hval2; cases hval2; rfl
        subst ea
        have p2 : Rp cf.K true (rs Hs2 R.H0) vx x := p2
        have hxe := p2.th hc.1
        refine ⟨a2, ys2, vx, rfl, rfl, hya2, by rw [hFa2.length]; exact lim_lt (of_decide_eq_true hc.2), ?_⟩
        exact hp Hs2 σ _ F wf s2.ex (r2.mut (i := i) (p := a2) (v := .ref p') (d0 := .dit kvs) haF2 e2 hv2 (by
          rw [hk]
          exact hup2 _ _ fun H' hH' => OwnL.app (hFa2.keep (Ex.refl _) fun b m o hb => by rw [hH' b m]; exact hb) (.cons hxe .nil)))
      · exact hp.elim
end
section
variable {X : Cx} {P : Program} {w : World} {K : PySem.W.Frag} {tg : Expr} {d : Addr} {o : Obj} {es : Array DictEntry} {ep : Nat}
theorem frzTv {pins : List (Addr × Obj)} {σ : L2.St} {H : Hp} {s : Shared} {kvs : List (List Key × V)} (I : Inv X pins σ H s) (h : H d = some (.frz o (.dT kvs))) :
    (d == sysModules) = false ∧ s.heap.get? d = some o ∧ o.ExactDict ∧ ∃ (es : Array DictEntry) (ep : Nat), o.data = .dict es ep ∧ es.size = kvs.length ∧
      ∀ (i : Nat) (k : List Key) (v : V), kvs[i]? = some (k, v) → ∃ (en : DictEntry), es[i]? = some en ∧ RelV v en.val := by
  obtain ⟨hd, z, hs, xs, pr, o', es, ep, ho, hx, hdt, he, _⟩ := I.hok d _ h
  rw [hd] at ho
  cases ho
  refine ⟨hs, hd, hx, es, ep, hdt, ?_, fun i k v e => ?_⟩
  · have l1 : es.size = xs.length := size_of_entries he
    have l2 : kvs.length = xs.length := Paired.length pr
    omega
  · obtain ⟨b, hb, e1, e2, e3⟩ := paired_get pr e
    have q := entry_at he i
    rw [hb] at q
    exact ⟨_, q, e3⟩
def Itdt (d : Addr) (o : Obj) (kvs : List (List Key × V)) : It :=
  ⟨fun i H => H d = some (.frz o (.dT kvs)) ∧ i < kvs.length, fun i H x H' => H' = H ∧ ∃ k, kvs[i]? = some (k, x), fun i H => H d = some (.frz o (.dT kvs)) ∧ kvs.length ≤ i⟩
theorem turn_valsT {kvs : List (List Key × V)} (it : Addr) (hod : o.data = .dict es ep) : Turn P w K tg (Itdt d o kvs) [it] it (fun i h => h.IsValIter it d i kvs.length ep) where
  mem := by simp
  obj := fun i h st b hb => by
    have e : b = it := by simpa using hb
    subst e
    obtain ⟨oi, e, c, dd⟩ := st
    exact ⟨oi, e, fun v z => by rw [dd] at z; cases z⟩
  keep := fun i h h' st k => st.at fun oi e => k it (by simp) oi e
  item := by
    intro X hP hw hK hc i pins s σ H E I hf st hg
    subst hP hw hK
    obtain ⟨hd, hi⟩ := hg
    obtain ⟨f0, f1, f2, f3, f4, f5⟩ := hf it (by simp)
    obtain ⟨hs, hgd, hx, es', ep', hdt, hsz, ent⟩ := frzTv I hd
    obtain ⟨rfl, rfl⟩ := dict_ep hod hdt
    obtain ⟨⟨k, v⟩, hkv⟩ : ∃ p, kvs[i]? = some p := ⟨kvs[i], List.getElem?_eq_getElem hi⟩
    obtain ⟨en, hen, ru⟩ := ent i k v hkv
    have hlt : i < es'.size := by omega
    have hv : es'[i].val = en.val := by
      rw [Array.getElem?_eq_getElem hlt] at hen
      rw [Option.some.inj hen]
    rw [← hsz] at st
    refine wpAny_pyNext_values_item_raw st ⟨o, hgd, hx, hdt⟩ hlt fun h' st' sb => ?_
    have I1 : Inv X pins σ H { s with heap := h' } := I.turned (t' := s.toks) (fun b ob hb e => (sb.2 b hb).trans e) f0 f1 f3 f4 f5
    obtain ⟨oi, e, c, dd⟩ := id st'
    refine ⟨es'[i].val, rfl, go_of (s := { s with heap := h' }) e c dd (by decide) ⟨v, H, I1, by rw [hv]; exact ru, ⟨rfl, k, hkv⟩, ?_, fun b hb => (hf b hb).1⟩⟩
    show h'.IsValIter it d (i + 1) kvs.length _
    rw [← hsz]
    exact st'
  done := by
    intro X hP hw hK hc i pins s σ H E I hf st hg
    subst hP hw hK
    obtain ⟨hd, hi⟩ := hg
    obtain ⟨f0, f1, f2, f3, f4, f5⟩ := hf it (by simp)
    obtain ⟨hs, hgd, hx, es', ep', hdt, hsz, ent⟩ := frzTv I hd
    obtain ⟨rfl, rfl⟩ := dict_ep hod hdt
    rw [← hsz] at st
    exact wpAny_pyNext_values_end_raw (I.ok.hd hc) st ⟨o, hgd, hx, hdt⟩ (by omega) fun h' eb => ⟨rfl, I.turned (t' := s.toks) (fun b ob hb e => eb b ob hb e) f0 f1 f3 f4 f5⟩
  self := fun A i s Q E st h => wpAny_pyIter_valiter st h
def iValsT (td : TE) : TI := fun σ H R => td σ H fun x H1 => ∃ d o kvs, x = .ref d ∧ H1 d = some (.frz o (.dT kvs)) ∧ R (Itdt d o kvs) H1
theorem pi_valuesT {e : Expr} {td : TE} {apos cpos : Pos} (he : PE X e td) (hbase : attributeBase e "values" X.env (eval e X.env) = eval e X.env := by rfl) (hline : (apos.endLine == cpos.line) = true := by rfl) : PI X tg (.Call (.Attribute e "values" apos) [] [] cpos) (iValsT td) := by
  refine ⟨fun pins s σ H R I h => ?_⟩
  refine wpAny_Call_method (T := "dict") (id := "dict.values") hbase rfl hline F.plainAttrs_dict F.slot_dict_values F.type_dict_values (thn (he.run pins s σ H _ I h) fun u s1 ⟨x, H1, I1, rx, d, o, kvs, ex, hd, q⟩ => ?_)
  subst ex
  obtain rfl : u = Value.ref d := rx
  obtain ⟨hs, hgd, hx, es, ep, hdt, hsz, ent⟩ := frzTv I1 hd
  have raw : s1.heap.DictRaw d es ep := ⟨o, hgd, hx, hdt⟩
  refine ⟨raw.typeIs, (fun b q => by cases q; exact ⟨o, hgd, hx.2.1⟩), ?_⟩
  have I2 : Inv X pins σ H1 { s1 with heap := s1.heap.push { cls := .type "dict_values", data := .fields #[.ref d] } } := I1.kept (t' := s1.toks) fun b ob q => Heap.get?_push_of_some _ q
  have fin : wpAny (model X.prog X.w) X.A (pyIter (.ref s1.heap.objs.size)) (PIE X pins σ tg R) X.xe { s1 with heap := s1.heap.push { cls := .type "dict_values", data := .fields #[.ref d] } } := by
    refine wpAny_pyIter_values_raw (d := d) ⟨_, Heap.get?_push_size _ rfl, rfl, rfl⟩ (raw.at fun o e => Heap.get?_push_of_some _ e) (pi_one (tk := s1.toks) I2 _ (turn_valsT _ hdt) ⟨_, Heap.get?_push_size _ rfl, rfl, ?_⟩ q)
    rw [hsz] <;> rfl
  show wpAny _ _ (callWith cpos (.builtin "dict.values") [.ref d] [] []) _ X.xe s1
  exact method_meetsIn F.slot_dict_values F.entry_dict_values rfl (PySem.evalArgs_none ⟨rfl, raw.typeIs, F.args_dict_values_1 _, _, meets_dict_values_raw d hs, ⟨_, _, raw⟩, fin⟩)
end
end MV
namespace MV
open PySem PySem.Spec PyProof.Rows L2
section
variable {K : PySem.W.Frag} {G G' : Hp} {p : Addr} {kvs : List (List Key × V)}
structure Swp (G G' : Hp) (p : Addr) (kvs : List (List Key × V)) : Prop where
  a : Rd G p (.dT kvs)
  b : Rd G' p (.dT kvs)
  off : ∀ q, q ≠ p → G' q = G q
theorem Swp.ne {q : Addr} {o : HO} (s : Swp G G' p kvs) (h : G q = some o) (n1 : o ≠ .dT kvs) (n2 : ∀ ob, o ≠ .frz ob (.dT kvs)) : q ≠ p := fun e => by
  subst e
  rcases s.a with z | ⟨ob, z⟩
  · rw [z] at h; cases h; exact n1 rfl
  · rw [z] at h; cases h; exact n2 ob rfl
theorem Swp.rs {B : Hp} (s : Swp G G' p kvs) (h : B p = none) : Swp (rs G B) (rs G' B) p kvs := by
  refine ⟨?_, ?_, fun q n => ?_⟩
  · unfold Rd; rw [rs_none h]; exact s.a
  · unfold Rd; rw [rs_none h]; exact s.b
  · cases z : B q with
    | none => rw [rs_none z, rs_none z]; exact s.off q n
    | some u => rw [rs_some z, rs_some z]
theorem swp_sql {x : Bool} {a : Addr} {xs : List V} (s : Swp G G' p kvs) (h : SqLx K x G a xs) : SqLx K x G' a xs := by
  cases x with
  | true =>
    have h : G a = some (.lst xs) := h
    show G' a = some (.lst xs)
    rw [s.off a (s.ne h (fun z => by cases z) fun _ z => by cases z)]; exact h
  | false =>
    rcases h with (h | ⟨o, h⟩) | h
    · exact .inl (.inl (by rw [s.off a (s.ne h (fun z => by cases z) fun _ z => by cases z)]; exact h))
    · exact .inl (.inr ⟨o, by rw [s.off a (s.ne h (fun z => by cases z) fun _ z => by cases z)]; exact h⟩)
    · exact .inr h
theorem swp_sqt {x : Bool} {a : Addr} {xs : List V} (s : Swp G G' p kvs) (h : SqTx K x G a xs) : SqTx K x G' a xs := by
  cases x with
  | true =>
    have h : G a = some (.tup xs) := h
    show G' a = some (.tup xs)
    rw [s.off a (s.ne h (fun z => by cases z) fun _ z => by cases z)]; exact h
  | false =>
    rcases h with (h | ⟨o, h⟩) | h
    · exact .inl (.inl (by rw [s.off a (s.ne h (fun z => by cases z) fun _ z => by cases z)]; exact h))
    · exact .inl (.inr ⟨o, by rw [s.off a (s.ne h (fun z => by cases z) fun _ z => by cases z)]; exact h⟩)
    · exact .inr h
theorem swp_dqk {x : Bool} {a : Addr} {ks : List (Key × V)} (s : Swp G G' p kvs) (h : DqK x G a ks) : DqK x G' a ks := by
  cases x with
  | true =>
    have h : G a = some (.dK ks) := h
    show G' a = some (.dK ks)
    rw [s.off a (s.ne h (fun z => by cases z) fun _ z => by cases z)]; exact h
  | false =>
    obtain ⟨o, h⟩ := h
    exact ⟨o, by rw [s.off a (s.ne h (fun z => by cases z) fun _ z => by cases z)]; exact h⟩
theorem swp_rd {a : Addr} {ks : List (List Key × V)} (s : Swp G G' p kvs) (h : Rd G a (.dT ks)) : Rd G' a (.dT ks) := by
  by_cases e : a = p
  · subst e
    have : ks = kvs := by
      rcases s.a with z | ⟨ob, z⟩ <;> rcases h with h | ⟨ob2, h⟩ <;> rw [z] at h <;> cases h <;> rfl
    rw [this]; exact s.b
  · unfold Rd; rw [s.off a e]; exact h
theorem swp_exh {a : Addr} {c : Value} (s : Swp G G' p kvs) (h : G a = some (ExH c a)) : G' a = some (ExH c a) := by
  rw [s.off a (s.ne h (fun z => by cases z) fun _ z => by cases z)]; exact h
mutual
theorem Rp.swp {x : Bool} (s : Swp G G' p kvs) : ∀ {v : V} {d : D}, Rp K x G v d → Rp K x G' v d
  | _, _, .sc h => .sc h
  | _, _, .lst h r => .lst (swp_sql s h) (RpL.swp s r)
  | _, _, .tup h r => .tup (swp_sqt s h) (RpL.swp s r)
  | _, _, .dic h l r => .dic (swp_dqk s h) l (RpL.swp s r)
  | _, _, .dit h l r => .dit (swp_rd s h) l (RpL.swp s r)
  | _, _, .exc h => .exc (swp_exh s h)
theorem RpL.swp {x : Bool} (s : Swp G G' p kvs) : ∀ {vs : List V} {ds : List D}, RpL K x G vs ds → RpL K x G' vs ds
  | _, _, .nil => .nil
  | _, _, .cons h r => .cons (Rp.swp s h) (RpL.swp s r)
end
end
mutual
theorem Own.keepR {K : PySem.W.Frag} {Hn Hn' H H' : Hp} (en : ∀ v d, Rp K true Hn v d → Rp K true Hn' v d) : ∀ {F : List Addr} {v : V} {d : D}, Own K Hn H F v d → (∀ a ∈ F, ∀ o, H a = some o → H' a = some o) → Own K Hn' H' F v d
  | _, _, _, .leaf h, _ => .leaf (en _ _ h)
  | _, _, _, .lst h r, e => .lst (e _ List.mem_cons_self _ h) (OwnL.keepR en r fun a m => e a (List.mem_cons_of_mem _ m))
  | _, _, _, .tup h r, e => .tup (e _ List.mem_cons_self _ h) (OwnL.keepR en r fun a m => e a (List.mem_cons_of_mem _ m))
  | _, _, _, .dic h l r, e => .dic (e _ List.mem_cons_self _ h) l (OwnL.keepR en r fun a m => e a (List.mem_cons_of_mem _ m))
  | _, _, _, .dit h l r, e => .dit (e _ List.mem_cons_self _ h) l (OwnL.keepR en r fun a m => e a (List.mem_cons_of_mem _ m))
theorem OwnL.keepR {K : PySem.W.Frag} {Hn Hn' H H' : Hp} (en : ∀ v d, Rp K true Hn v d → Rp K true Hn' v d) : ∀ {F : List Addr} {vs : List V} {ds : List D}, OwnL K Hn H F vs ds → (∀ a ∈ F, ∀ o, H a = some o → H' a = some o) → OwnL K Hn' H' F vs ds
  | _, _, _, .nil, _ => .nil
  | _, _, _, .cons h r, e => .cons (Own.keepR en h fun a m => e a (List.mem_append_left _ m)) (OwnL.keepR en r fun a m => e a (List.mem_append_right _ m))
end
theorem th_swp {G G' : Hp} {p : Addr} {kvs : List (List Key × V)} (s : Swp G G' p kvs) : Ex (TH G) (TH G') := fun a o h => by
  obtain ⟨xs, rfl, q⟩ := th_some h
  exact th_tup (by rw [s.off a (s.ne q (fun z => by cases z) fun _ z => by cases z)]; exact q)
section
variable {cf : Cf} {R : Rs} {Hs H : Hp} {env : PEnv} {σ : L2.St} {F : Nat → List Addr} {wf : List Addr} {p : Addr} {kvs : List (List Key × V)}
theorem swp_upd {o : HO} (a : Rd Hs p (.dT kvs)) (b : o = .dT kvs ∨ ∃ ob, o = .frz ob (.dT kvs)) : Swp Hs (upd Hs p o) p kvs :=
  ⟨a, by rcases b with rfl | ⟨ob, rfl⟩; · exact .inl upd_same
         · exact .inr ⟨ob, upd_same⟩, fun q n => upd_ne n⟩
theorem Rel.swp (r : Rel cf R Hs env σ H F wf) (a : Rd Hs p (.dT kvs)) (h0 : R.H0 p = none) {o : HO} (b : o = .dT kvs ∨ ∃ ob, o = .frz ob (.dT kvs)) : Rel cf R (upd Hs p o) env σ (upd H p o) F wf := by
  have s := swp_upd a b
  have pS : Hs p ≠ none := by rcases a with z | ⟨_, z⟩ <;> rw [z] <;> exact fun z => by cases z
  have nF : ∀ {i : Nat} {x : Addr}, x ∈ F i → x ≠ p := fun {i x} m e => by subst e; exact pS (r.uns i x m)
  have nW : ∀ {x : Addr}, x ∈ wf → x ≠ p := fun {x} m e => by subst e; exact pS (r.wdom x m).2
  have own : ∀ (i : Nat), ∀ x ∈ F i, ∀ o', H x = some o' → upd H p o x = some o' := fun i x m o' e => by rw [upd_ne (nF m)]; exact e
  refine
    { len := r.len
      exs := fun x o' h => by
        by_cases q : x = p
        · subst q; rw [upd_same] at h ⊢; exact h
        · rw [upd_ne q] at h ⊢; exact r.exs x o' h
      ex0 := fun x o' h n => by
        have q : x ≠ p := fun e => by subst e; rw [h0] at h; cases h
        rw [upd_ne q]; exact r.ex0 x o' h n
      dom0 := fun x h => by
        by_cases q : x = p
        · subst q; rw [upd_same]; exact fun z => by cases z
        · rw [upd_ne q]; exact r.dom0 x h
      slot := fun i d h => ?_
      nod := r.nod
      dis := r.dis
      fdom := fun i x m => by rw [upd_ne (nF m)]; exact r.fdom i x m
      uns := fun i x m => by rw [upd_ne (nF m)]; exact r.uns i x m
      new := r.new
      volw := r.volw
      volb := r.volb
      wdom := fun x m => by rw [upd_ne (nW m), upd_ne (nW m)]; exact r.wdom x m
      ior := r.ior }
  obtain ⟨v, h1, h2⟩ := r.slot i d h
  refine ⟨v, h1, ?_⟩
  have sr := s.rs (B := R.H0) h0
  cases q : cf.kd i with
  | S => rw [q] at h2; exact h2.swp s
  | Q => rw [q] at h2; exact h2.swp s
  | N => rw [q] at h2; exact h2.swp sr
  | P => rw [q] at h2; exact h2.keep (th_swp sr) (own i)
  | M => rw [q] at h2; exact ⟨h2.1.keepR (fun v d h => h.swp sr) (own i), h2.2⟩
  | W =>
    rw [q] at h2
    obtain ⟨p', xs, ds, e1, e2, e3, e4, e5⟩ := h2
    exact ⟨p', xs, ds, e1, e2, e3, own i p' (by rw [e3]; exact List.mem_cons_self) _ e4, e5⟩
end
def sForLC (chk : PEnv → Bool) (tg : D → M Unit) (b : M Fl) : List D → M Fl
  | [] => ret .nx
  | d :: r => fun e => if chk e then bnd (tg d) (fun _ => bnd b (sAft (sForLC chk tg b r))) e else .stuck
def nox : Res Fl → Res Fl
  | .ex _ _ => .stuck
  | r => r
def sForV (i j : Nat) (b : M Fl) : M Fl := fun e => match ditAt i e with
  | some kvs => nox (sForLC (fun _ => true) (tgN j) b (kvs.map (·.2)) e)
  | none => .stuck
section
variable {X : Cx} {cf : Cf} {W : WX} {c : Cls} {n n1 n2 : Bool}
theorem ps_or {st : Stmt} {t u : TS} (h : PS X st t) (h2 : PS X st u) : PS X st fun D σ H => t D σ H ∨ u D σ H :=
  ⟨fun pins s σ H D I q => q.elim (h.run pins s σ H D I) (h2.run pins s σ H D I)⟩
theorem loop_fz {tb : TS} {fb : M Fl} {chk : PEnv → Bool} {j : Nat} (sb : SdS cf W tb fb) {R : Rs} {Hs1 : Hp} {env1 : PEnv} {σ : L2.St} {H1 : Hp} {F : Nat → List Addr} {wf : List Addr} {D : Ends} {ds : List MV.D} {J : It} {p : Addr} {z : HO} (r1 : Rel cf R Hs1 env1 σ H1 F wf) (hz : Hs1 p = some z)
    (go : ∀ k H, k < ds.length → H p = some z → J.go k H) (stop : ∀ H, H p = some z → J.stop ds.length H)
    (yld : ∀ k H x H', J.yld k H x H' → H' = H) (bindT : ∀ k x (Hs2 : Hp) (env2 : PEnv) (σ2 : L2.St) (H2 : Hp) (F2 : Nat → List Addr) (wf2 : List Addr) (d : MV.D), Ex Hs1 Hs2 → Rel cf R Hs2 env2 σ2 H2 F2 wf2 → J.yld k H2 x H2 → ds[k]? = some d → chk env2 = true → ∃ Hs3 F3 wf3, Ex Hs2 Hs3 ∧ Rel cf R Hs3 (env2.set j (some d)) (σ2.set j (some x)) H2 F3 wf3)
    (hp : Post cf W R Hs1 D (sForLC chk (tgN j) fb ds env1)) :
    ∃ W : Nat → Nat → L2.St → Hp → Prop, (∃ m, W 0 m σ H1) ∧ ∀ i m σ H, W i m σ H → (J.stop i H ∧ D.nx σ H) ∨ (J.go i H ∧ ∃ N : L2.St → Hp → Prop, (∀ σ' H', N σ' H' → ∃ m', m' < m ∧ W (i + 1) m' σ' H') ∧ ∀ x H', J.yld i H x H' → gName j x σ H' fun σ2 H2 => tb { D with nx := N, ct := N, bk := D.nx } σ2 H2) := by
  refine ⟨fun k m σ H => ∃ Hs2 env2 F2 wf2, Ex Hs1 Hs2 ∧ Rel cf R Hs2 env2 σ H F2 wf2 ∧ k ≤ ds.length ∧ m = ds.length - k ∧ Post cf W R Hs2 D (sForLC chk (tgN j) fb (ds.drop k) env2),
    ⟨ds.length, Hs1, env1, F, wf, Ex.refl _, r1, Nat.zero_le _, by simp, by rw [List.drop_zero]; exact hp⟩, ?_⟩
  rintro k m σ H ⟨Hs2, env2, F2, wf2, e2, r2, hi, rfl, hp⟩
  have hH : H p = some z := r2.exs _ _ (e2 _ _ hz)
  by_cases hlt : k < ds.length
  · refine .inr ⟨go k H hlt hH, fun σ' H' => ∃ Hs3 env3 F3 wf3, Ex Hs1 Hs3 ∧ Rel cf R Hs3 env3 σ' H' F3 wf3 ∧ Post cf W R Hs3 D (sForLC chk (tgN j) fb (ds.drop (k + 1)) env3), fun σ' H' hN => ?_, fun x H' y => ?_⟩
    · obtain ⟨Hs3, env3, F3, wf3, e3, r3, hp3⟩ := hN
      exact ⟨ds.length - (k + 1), by omega, Hs3, env3, F3, wf3, e3, r3, hlt, rfl, hp3⟩
    · obtain rfl := yld k H x H' y
      have ed : ds.drop k = ds[k] :: ds.drop (k + 1) := List.drop_eq_getElem_cons hlt
      rw [ed, sForLC] at hp
      simp only at hp
      split at hp
      · rename_i hc
        obtain ⟨Hs3, F3, wf3, e3, r3⟩ := bindT k x Hs2 env2 σ H' F2 wf2 ds[k] e2 r2 y (List.getElem?_eq_getElem hlt) hc
        have qt : tgN j ds[k] env2 = .ok () (env2.set j (some ds[k])) := rfl
        rw [bnd_of_ok qt] at hp
        refine sb R _ _ _ H' F3 wf3 r3 _ ?_
        have hp : Post cf W R _ D (bnd fb (sAft (sForLC chk (tgN j) fb (ds.drop (k + 1)))) (env2.set j (some ds[k]))) := Post.mono e3 hp
        unfold bnd at hp
        cases qb : fb (env2.set j (some ds[k])) with
        | ok f env4 =>
          rw [qb] at hp
          cases f with
          | nx => exact fun Hs' σ' H'' F' wf' x' r' => ⟨Hs', env4, F', wf', (e2.trans e3).trans x', r', Post.mono x' hp⟩
          | ct => exact fun Hs' σ' H'' F' wf' x' r' => ⟨Hs', env4, F', wf', (e2.trans e3).trans x', r', Post.mono x' hp⟩
          | bk => exact fun Hs' σ' H'' F' wf' x' r' => hp Hs' σ' H'' F' wf' x' r'
          | rt d => exact hp
        | ex x env4 => rw [qb] at hp; exact hp
        | stuck => rw [qb] at hp; exact hp.elim
      · exact hp.elim
  · have e : k = ds.length := by omega
    subst e
    rw [List.drop_length] at hp
    exact .inl ⟨stop H hH, hp Hs2 σ H F2 wf2 (Ex.refl _) r2⟩
def Lk (D : Ends) (p : Addr) (z u : HO) : Ends := ⟨fun σ' H' => H' p = some z ∧ D.nx σ' (upd H' p u), fun v H' => H' p = some z ∧ D.rt v (upd H' p u), fun σ' H' => H' p = some z ∧ D.bk σ' (upd H' p u), fun σ' H' => H' p = some z ∧ D.ct σ' (upd H' p u)⟩
theorem Post.lk {R : Rs} {Hs : Hp} {D : Ends} {p : Addr} {kvs : List (List Key × V)} {od : Obj} {g : Res Fl} (hu : Hs p = some (.dT kvs)) (h0 : R.H0 p = none) (hp : Post cf W R Hs D (nox g)) : Post cf W R (upd Hs p (.frz od (.dT kvs))) (Lk D p (.frz od (.dT kvs)) (.dT kvs)) g := by
  have ex : ∀ {Hs' : Hp}, Ex (upd Hs p (.frz od (.dT kvs))) Hs' → Hs' p = some (.frz od (.dT kvs)) ∧ Ex Hs (upd Hs' p (.dT kvs)) := fun {Hs'} e => ⟨e _ _ upd_same, fun a o h => by
    by_cases q : a = p
    · subst q; rw [upd_same]; rw [hu] at h; exact h
    · rw [upd_ne q]; exact e a o (by rw [upd_ne q]; exact h)⟩
  have th : ∀ {Hs' H' : Hp} {env' : PEnv} {σ' : L2.St} {F' : Nat → List Addr} {wf' : List Addr}, Ex (upd Hs p (.frz od (.dT kvs))) Hs' → Rel cf R Hs' env' σ' H' F' wf' → H' p = some (.frz od (.dT kvs)) ∧ Rel cf R (upd Hs' p (.dT kvs)) env' σ' (upd H' p (.dT kvs)) F' wf' := fun {Hs' H' env' σ' F' wf'} e r' => by
    obtain ⟨e1, e2⟩ := ex e
    exact ⟨r'.exs _ _ e1, r'.swp (.inr ⟨od, e1⟩) h0 (.inl rfl)⟩
  cases g with
  | stuck => exact hp
  | ex x e => exact hp.elim
  | ok f env' =>
    cases f with
    | nx => exact fun Hs' σ' H' F' wf' e r' => ⟨(th e r').1, hp _ σ' _ F' wf' (ex e).2 (th e r').2⟩
    | bk => exact fun Hs' σ' H' F' wf' e r' => ⟨(th e r').1, hp _ σ' _ F' wf' (ex e).2 (th e r').2⟩
    | ct => exact fun Hs' σ' H' F' wf' e r' => ⟨(th e r').1, hp _ σ' _ F' wf' (ex e).2 (th e r').2⟩
    | rt d =>
      intro v Hs' σ' H' F' wf' e r' pv
      obtain ⟨q1, q2⟩ := th e r'
      refine ⟨q1, hp v _ σ' _ F' wf' (ex e).2 q2 ?_⟩
      have nw : p ∉ wf' := fun m => by
        have := (r'.wdom p m).2
        rw [(ex e).1] at this
        cases this
      have s1 : Rd (rm H' wf') p (.dT kvs) := by unfold Rd rm; rw [if_neg nw]; exact .inr ⟨od, q1⟩
      have s2 : Rd (rm (upd H' p (.dT kvs)) wf') p (.dT kvs) := by unfold Rd rm; rw [if_neg nw, upd_same]; exact .inl rfl
      have s : Swp (rm H' wf') (rm (upd H' p (.dT kvs)) wf') p kvs := ⟨s1, s2, fun q n => by
        unfold rm
        split
        · rfl
        · exact upd_ne n⟩
      exact pv.swp (s.rs (B := R.H0) h0)
theorem ss_forV {i j : Nat} {y : Str} {o : Expr} {body : List Stmt} {fb : M Fl} {apos cpos tpos pos : Pos} (hp : PassesOwn (model X.prog X.w) X.A X.env X.xe) (hc : X.calm = true) (po : PE X o (tVar i)) (hk : cf.kd i = .N) (hkj : cf.kd j = .S) (hN : X.N.Nodup) (hj : X.N[j]? = some y) (hx : Loc X.env.scope y) (hb : SSs X cf W body fb)
    (hbase : attributeBase o "values" X.env (eval o X.env) = eval o X.env := by rfl) (hline : (apos.endLine == cpos.line) = true := by rfl)
    (hf : X.fn y = true ∨ X.env.scope.names.lookup y = some .local := by first | exact .inl rfl | exact .inr rfl | assumption)
    (hs : ∀ x, foldedSetIterable (.Call (.Attribute o "values" apos) [] [] cpos) X.env x = pure x := by intro _; rfl) : SS X cf W (.For (.Name y tpos) (.Call (.Attribute o "values" apos) [] [] cpos) body [] pos) (sForV i j fb) := by
  obtain ⟨tb, pb, sb⟩ := hb
  have pf := ps_for (pos := pos) hp hc (pi_valuesT (tg := .Name y tpos) po hbase hline) (pg_name hN hj hx hf) pb hs
  refine ⟨_, ps_or (ps_lock pf) pf, fun R Hs env σ H F wf r D hp => ?_⟩
  unfold sForV at hp
  cases q0 : ditAt i env with
  | none => rw [q0] at hp; exact hp.elim
  | some kvs =>
    rw [q0] at hp
    have hp : Post cf W R Hs D (nox (sForLC (fun _ => true) (tgN j) fb (kvs.map (·.2)) env)) := hp
    obtain ⟨v, hv, hsl⟩ := r.slot i _ (ditAt_some q0)
    rw [hk] at hsl
    obtain ⟨p, kvs', rfl, hr, k1, k2⟩ := Rp.dit_inv hsl
    have h0 : R.H0 p = none := by
      cases z : R.H0 p with
      | none => rfl
      | some u => rcases hr with h | ⟨_, h⟩ <;> rw [rs_some z] at h <;> cases h
    have hr : Rd Hs p (.dT kvs') := by
      rcases hr with h | ⟨o, h⟩
      · rw [rs_none h0] at h; exact .inl h
      · rw [rs_none h0] at h; exact .inr ⟨o, h⟩
    have ln : kvs'.length = (kvs.map (·.2)).length := by rw [List.length_map]; exact len_of_keys k1
    -- at a frozen heap
    have run : ∀ {Hs1 H1 : Hp} {od : Obj} {D1 : Ends}, Rel cf R Hs1 env σ H1 F wf → Hs1 p = some (.frz od (.dT kvs')) → RpL cf.K true (rs Hs1 R.H0) (kvs'.map (·.2)) (kvs.map (·.2)) → Post cf W R Hs1 D1 (sForLC (fun _ => true) (tgN j) fb (kvs.map (·.2)) env) → tFor (iValsT (tVar i)) (gName j) tb D1 σ H1 := by
      intro Hs1 H1 od D1 r1 hz kk hp1
      refine ⟨.ref p, hv, p, od, kvs', rfl, r1.exs _ _ hz, ?_⟩
      refine loop_fz (chk := fun _ => true) (ds := kvs.map (·.2)) (p := p) (z := .frz od (.dT kvs')) sb r1 hz (fun k H hk hH => ⟨hH, by omega⟩) (fun H hH => ⟨hH, by omega⟩) (fun k H x H' y => y.1) (fun k x Hs2 env2 σ2 H2 F2 wf2 d e2 r2 y hd _ => ?_) hp1
      obtain ⟨_, kk2, hkv⟩ := y
      obtain ⟨v', hv', hr'⟩ := kk.get hd
      have : v' = x := by
        rw [List.getElem?_map, hkv] at hv'
        exact (Option.some.inj hv').symm
      subst this
      exact ⟨Hs2, F2, wf2, Ex.refl _, r2.put (i := j) (v := v') (d := d) (by rw [hkj]; exact fun z => by cases z) fun F' => by
        rw [hkj]; exact hr'.mono ((rs_sub _ _).trans e2)⟩
    rcases hr with hr | ⟨od, hr⟩
    · refine .inl ⟨p, .dT kvs', r.exs _ _ hr, trivial, fun od => ?_⟩
      have rf := r.swp (.inl hr) h0 (o := .frz od (.dT kvs')) (.inr ⟨od, rfl⟩)
      exact run rf upd_same (k2.swp ((swp_upd (.inl hr) (.inr ⟨od, rfl⟩)).rs (B := R.H0) h0)) (Post.lk hr h0 hp)
    · refine .inr (run r hr k2 ?_)
      cases z : sForLC (fun _ => true) (tgN j) fb (kvs.map (·.2)) env with
      | stuck => rw [z] at hp; exact hp.elim
      | ex x e => rw [z] at hp; exact hp.elim
      | ok f e => rw [z] at hp; exact hp
end
theorem forLC_true (tg : D → M Unit) (b : M Fl) : ∀ l : List D, sForLC (fun _ => true) tg b l = sForL tg b l
  | [] => rfl
  | d :: r => by
    funext e
    rw [sForLC, sForL, forLC_true tg b r]
    rfl
end MV
namespace Ov
open PySem MV
def B_need_number : M Fl := (sIf (tNot1 (tTr (eV 0))) (sRaise (Str.ofString "NoNumber")) sSkip)
def F_need_number : List D → FR := runF 1 B_need_number
def B_most_of_l1 : M Fl := (sSeq (sSet 6 (eN gTup1 (aCons (eSl (eV 0) (oSome (eV 3)) (oSome (e2 gAdd (eV 3) (eV 1)))) aNil)))
  (sSeq (sIf (tB (e2 gDNotIn (eV 6) (eV 2))) (sDPE 2 (eV 6)) sSkip)
  (sDApp 2 (eV 6) (eS (eV 3)))))
def B_most_of_l2 : M Fl := (sSeq (sSet 7 (e2 gAdd (eV 1) (eN gSum (aCons (eLc [8, 9] (iN gZp (aCons (eV 5) (aCons (eSl (eV 5) (oSome (eC (.int 1))) oNone) aNil))) (tgT [8, 9]) tTrue (eN gMin2 (aCons (eV 1) (aCons (e2 gSub (eV 9) (eV 8)) aNil)))) aNil))))
  (sIf (tB (e2 gGt (eV 7) (e2 gIx (eV 4) (eC (.int 0))))) (sSet 4 (eF (eN gTupD (aCons (eV 7) (aCons (e2 gIx (eV 5) (eC (.int 0))) aNil))))) sSkip))
def B_most_of : M Fl := (sSeq (sSetD 2 (eN gDNewT aNil))
  (sSeq (sFor (iN gR1 (aCons (e2 gAdd (e2 gSub (eN gLen (aCons (eV 0) aNil)) (eV 1)) (eC (.int 1))) aNil)) (tgN 3) B_most_of_l1)
  (sSeal 2 (sSeq (sSet 4 (eN gTupD (aCons (eC (.int 0)) (aCons (eC (.int 0)) aNil))))
  (sSeq (sForV 2 5 B_most_of_l2)
  (sRet (eV 4)))))))
def F_most_of : List D → FR := runF 10 B_most_of
def B_most_covering : M Fl := (sSeq (sDrop (eCall F_need_signs (aCons (eV 0) aNil)))
  (sSeq (sDrop (eCall F_need_number (aCons (eChain gLe gLe (eC (.int 1)) (eV 1) (eN gLen (aCons (eV 0) aNil))) aNil)))
  (sRet (eCall F_most_of (aCons (eV 0) (aCons (eV 1) aNil))))))
def F_most_covering : List D → FR := runF 2 B_most_covering
def B_how_covered_v2_l1 : M Fl := (sSeq (sIf (tB (e2 gGt (eV 4) (eV 3))) (sApp 2 (eF (eN gTupD (aCons (eV 3) (aCons (eV 4) aNil))))) sSkip)
  (sSet 3 (e2 gAdd (eV 4) (eN gLen (aCons (eV 1) aNil)))))
def B_how_covered_v2 : M Fl := (sSeq (sDrop (eCall F_need_word (aCons (eV 1) aNil)))
  (sSeq (sDrop (eCall F_need_signs (aCons (eV 1) aNil)))
  (sSeq (sDrop (eCall F_need_signs (aCons (eV 0) aNil)))
  (sSeq (sSetM 2 (eN gLst aNil))
  (sSeq (sSet 3 (eC (.int 0)))
  (sSeq (sFor (iL (e2 gAdd (eCall F_laid_at (aCons (eV 0) (aCons (eV 1) aNil))) (eN gLst (aCons (eN gLen (aCons (eV 0) aNil)) aNil)))) (tgN 4) B_how_covered_v2_l1)
  (sSeal 2 (sRet (eN gTupD (aCons (e2 gSub (eN gLen (aCons (eV 0) aNil)) (eN gSum (aCons (eLc [5, 6] (iL (eV 2)) (tgT [5, 6]) tTrue (e2 gSub (eV 6) (eV 5))) aNil))) (aCons (eV 2) aNil)))))))))))
def F_how_covered_v2 : List D → FR := runF 7 B_how_covered_v2
def T_length_for_l1 : M Bool := (tAnd2 (tB (e2 gGt (eV 2) (eC (.int 1)))) (tB (e2 gGe (e2 gIx (eCall F_most_of (aCons (eV 0) (aCons (e2 gSub (eV 2) (eC (.int 1))) aNil))) (eC (.int 0))) (eV 1))))
def B_length_for_l2 : M Fl := (sAug (fun i j => i - j) 2 (eC (.int 1)))
def B_length_for : M Fl := (sSeq (sDrop (eCall F_need_signs (aCons (eV 0) aNil)))
  (sSeq (sDrop (eCall F_need_text (aCons (eV 0) aNil)))
  (sSeq (sDrop (eCall F_need_number (aCons (eChain gLe gLe (eC (.int 0)) (eV 1) (eN gLen (aCons (eV 0) aNil))) aNil)))
  (sSeq (sSet 2 (eN gLen (aCons (eV 0) aNil)))
  (sSeq (sWhile T_length_for_l1 B_length_for_l2 WFUEL)
  (sRet (eV 2)))))))
def F_length_for : List D → FR := runF 3 B_length_for
end Ov
namespace Ov
open PySem (Str)
open MV
def Lt (z : Str) (n : Nat) : Prop := z.cps.size = n ∧ ∀ c ∈ z.cps.toList, 97 ≤ c ∧ c ≤ 122
theorem lt_all : Lt (Str.ofString "abcdefghijklmnopqrstuvwxyz") 26 := ⟨by decide +kernel, by decide +kernel⟩
theorem Lt.len {z : Str} {n : Nat} (h : Lt z n) : z.length = n := h.1
theorem Lt.at {z : Str} {n r : Nat} (h : Lt z n) (hr : r < n) : ∃ c, L2.atI z.cps.toList (r : Int) = some c ∧ Sg ⟨#[c]⟩ := by
  rw [atI_eq]
  have hl : r < z.cps.toList.length := by rw [Array.length_toList, h.1]; exact hr
  rw [List.getElem?_eq_getElem hl]
  obtain ⟨h1, h2⟩ := h.2 _ (List.getElem_mem hl)
  exact ⟨_, rfl, _, rfl, h1, h2⟩
theorem cps_app (x y : Str) : (x ++ y).cps.toList = x.cps.toList ++ y.cps.toList := by
  show (x.cps ++ y.cps).toList = _
  simp
theorem Lt.app {z : Str} {n : Nat} (h : Lt z n) {c : Nat} (hc : Sg ⟨#[c]⟩) : Lt (z ++ ⟨#[c]⟩) (n + 1) := by
  obtain ⟨c', e, h1, h2⟩ := hc
  cases e
  refine ⟨?_, fun d hd => ?_⟩
  · rw [← Array.length_toList, cps_app, List.length_append, Array.length_toList, h.1]; rfl
  · rw [cps_app] at hd
    rcases List.mem_append.mp hd with hd | hd
    · exact h.2 d hd
    · have : d = c := by simpa using hd
      subst this; exact ⟨h1, h2⟩
theorem cps_cut (z : Str) (lo hi : Option Int) : (L2.cutS z lo hi).cps.toList = cutA z.cps.toList lo hi := by
  unfold L2.cutS cutA
  simp [PySem.Str.length]
theorem Lt.cut {z : Str} {n r : Nat} (h : Lt z (n + 1)) (hr : r < n + 1) : Lt (L2.cutS z none (some (r : Int)) ++ L2.cutS z (some ((r : Int) + 1)) none) n := by
  have e : (L2.cutS z none (some (r : Int)) ++ L2.cutS z (some ((r : Int) + 1)) none).cps.toList = z.cps.toList.take r ++ z.cps.toList.drop (r + 1) := by
    rw [cps_app, cps_cut, cps_cut, cutA_to, show ((r : Int) + 1) = ((r + 1 : Nat) : Int) by omega, cutA_from]
  refine ⟨?_, fun c hc => ?_⟩
  · rw [← Array.length_toList, e, List.length_append, List.length_take, List.length_drop, Array.length_toList, h.1]; omega
  · rw [e] at hc
    rcases List.mem_append.mp hc with hc | hc
    · exact h.2 c (List.mem_of_mem_take hc)
    · exact h.2 c (List.mem_of_mem_drop hc)
end Ov
namespace Ov
open PySem (Str)
open MV
def bord (t : List Str) : List Nat := (List.range t.length).filter fun k => decide (t.take k = t.drop (t.length - k))
end Ov
namespace Ov
open PySem (Str)
open MV
theorem bord_lt {t : List Str} {k : Nat} (h : k ∈ bord t) : k < t.length := by
  unfold bord at h
  rw [List.mem_filter, List.mem_range] at h
  exact h.1
theorem bord_len (t : List Str) : (bord t).length ≤ t.length := by
  unfold bord
  exact Nat.le_trans (List.length_filter_le _ _) (by rw [List.length_range]; exact Nat.le_refl _)
end Ov
namespace Ov
open PySem (Str)
open MV
theorem sg_in {x : Str} (h : Sg x) : x.length = 1 ∧ gNotIn (.str x) (.str (Str.ofString "abcdefghijklmnopqrstuvwxyz")) = some (.bl false) := by
  obtain ⟨c, rfl, h1, h2⟩ := h
  refine ⟨rfl, ?_⟩
  have : ∀ c : Nat, 97 ≤ c → c ≤ 122 → c ∈ (Str.ofString "abcdefghijklmnopqrstuvwxyz").cps.toList := by
    have : ∀ k : Fin 26, (97 + k.val) ∈ (Str.ofString "abcdefghijklmnopqrstuvwxyz").cps.toList := by decide +kernel
    intro c h1 h2
    have := this ⟨c - 97, by omega⟩
    simpa [show 97 + (c - 97) = c by omega] using this
  have := this c h1 h2
  show (inOk _ _).map _ = _
  unfold inOk
  simp [this]
theorem need_signs_val {t : List Str} (ht : Tx t) (hl : t.length ≤ LIM) : F_need_signs [dT t] = .ok .non (dT t) := by
  have h1 := lc_pure (is := [1]) (tg := tgN 1) (t := tOr2 (tB (e2 gNe (eN gLen (aCons (eV 1) aNil)) (eC (.int 1)))) (tB (e2 gNotIn (eV 1) (eC (.str (Str.ofString "abcdefghijklmnopqrstuvwxyz")))))) (fe := eV 1) (e := [some (dT t), none]) (φ := D.str) (p := fun _ => false) (g := D.str) t [] (by simpa using hl)
    (fun x hx => ⟨_, [some (dT t), some (.str x)], rfl, by
      obtain ⟨q1, q2⟩ := sg_in (ht x hx)
      have l1 : (1 : Nat) ≤ LIM := by decide
      simp [q1, l1, q2], (fun h => by cases h), fun _ => rfl⟩)
  rw [filter_no] at h1
  simp only [F_need_signs, r_runF, B_need_signs]
  simp [h1, hsz0]
theorem need_word_val {w : List Str} (hw : Tx w) (h0 : w ≠ []) : F_need_word [dT w] = .ok .non (dT w) := by
  simp only [F_need_word, r_runF, B_need_word]
  simp [hsz0, gEq_nT hw.ok, h0]
def lies (t w : List Str) : List Nat := (List.range (t.length + 1 - w.length)).filter fun p => decide ((t.drop p).take w.length = w)
theorem lies_lt {t w : List Str} {p : Nat} (h : p ∈ lies t w) : p + w.length ≤ t.length := by
  unfold lies at h
  rw [List.mem_filter, List.mem_range] at h
  omega
theorem lies_len (t w : List Str) : (lies t w).length ≤ t.length + 1 := by
  unfold lies
  exact Nat.le_trans (List.length_filter_le _ _) (by rw [List.length_range]; omega)
theorem laid_at_val {t w : List Str} (ht : Tx t) (hw : Tx w) (hl : t.length ≤ 1000) (hl2 : w.length ≤ 1000) : F_laid_at [dT t, dT w] = .ok (dN (lies t w)) (dT t) := by
  have hs : smallI ((t.length : Int) - (w.length : Int) + 1) = true := small_of (by omega) (by omega)
  have h1 := lc_nat (is := [3]) (tg := tgN 3) (t := tB (e2 gEq (eSl (eV 0) (oSome (eV 3)) (oSome (e2 gAdd (eV 3) (eV 2)))) (eV 1))) (fe := eV 3) (e := [some (dT t), some (dT w), some (.int w.length), none]) (fun p => decide ((t.drop p).take w.length = w)) (fun k => .int (k : Int)) (List.range (t.length + 1 - w.length)) (by rw [List.length_range]; show _ ≤ 100000; omega)
    (fun k hk => by
      refine ⟨_, [some (dT t), some (dT w), some (.int w.length), some (.int k)], rfl, ?_, fun _ => ⟨_, rfl, rfl⟩, fun _ => rfl⟩
      have := gEq_dT ((ht.drop k).take w.length).ok hw.ok
      simp [cutA_map, cutA_mid2, this, -List.map_take, -List.map_drop])
  have e1 : ((t.length : Int) - (w.length : Int) + 1).toNat = t.length + 1 - w.length := by omega
  simp only [F_laid_at, r_runF, B_laid_at]
  simp [hs, rng0, e1, h1, lies]
theorem lies_at_val {t w : List Str} (ht : Tx t) (hw : Tx w) (h0 : w ≠ []) (hl : t.length ≤ 1000) (hl2 : w.length ≤ 1000) : F_lies_at [dT t, dT w] = .ok (dN (lies t w)) (dT t) := by
  have hL : t.length + w.length ≤ LIM := by show _ ≤ 100000; omega
  have hn := need_signs_val (ht.append hw) (by rw [List.length_append]; exact hL)
  simp only [F_lies_at, r_runF, B_lies_at]
  have hn : F_need_signs [.lst (t.map D.str ++ w.map D.str)] = .ok .non (dT (t ++ w)) := by rw [← List.map_append]; exact hn
  simp [need_word_val hw h0, hL, hn, laid_at_val ht hw hl hl2]
theorem range_filter_succ (p : Nat → Bool) (n : Nat) : (List.range (n + 1)).filter p = (List.range n).filter p ++ if p n = true then [n] else [] := by
  rw [List.range_succ, List.filter_append]
  by_cases h : p n = true
  · simp [h]
  · simp [h]
end Ov
namespace Ov
open PySem (Str PyData)
open MV
theorem Tx.cut {t : List Str} (h : Tx t) (lo hi : Option Int) : Tx (cutA t lo hi) := by
  unfold cutA; exact (Tx.drop h _).take _
end Ov
namespace Ov
open PySem (Str)
open MV
section
variable {α : Type} [DecidableEq α]
def isB (t : List α) (n k : Nat) : Prop := k < n ∧ n ≤ t.length ∧ ∀ j, j < k → t[j]? = t[n - k + j]?
def isG (t : List α) (n g : Nat) : Prop := isB t n g ∧ ∀ k, isB t n k → k ≤ g
variable {t : List α} {n k m g : Nat}
theorem isB_zero (h : 0 < n) (h2 : n ≤ t.length) : isB t n 0 := ⟨h, h2, fun j hj => by omega⟩
theorem isB_trans (h : isB t n k) (h2 : isB t k m) : isB t n m := by
  obtain ⟨a1, a2, a3⟩ := h
  obtain ⟨b1, b2, b3⟩ := h2
  refine ⟨by omega, a2, fun j hj => ?_⟩
  rw [b3 j hj, a3 (k - m + j) (by omega)]
  congr 1; omega
theorem isB_down (h : isB t n k) (h2 : isB t n m) (hl : m < k) : isB t k m := by
  obtain ⟨a1, a2, a3⟩ := h
  obtain ⟨b1, b2, b3⟩ := h2
  refine ⟨hl, by omega, fun j hj => ?_⟩
  rw [b3 j hj, a3 (k - m + j) (by omega)]
  congr 1; omega
theorem isB_succ (hn : n < t.length) : isB t (n + 1) (k + 1) ↔ isB t n k ∧ t[k]? = t[n]? := by
  constructor
  · intro ⟨a1, a2, a3⟩
    refine ⟨⟨by omega, by omega, fun j hj => ?_⟩, ?_⟩
    · rw [a3 j (by omega)]; congr 1; omega
    · rw [a3 k (by omega)]; congr 1; omega
  · intro ⟨⟨a1, a2, a3⟩, a4⟩
    refine ⟨by omega, by omega, fun j hj => ?_⟩
    by_cases q : j = k
    · subst q; rw [a4]; congr 1; omega
    · rw [a3 j (by omega)]; congr 1; omega
theorem isG_one (h : 0 < t.length) : isG t 1 0 := ⟨isB_zero (by decide) h, fun k hk => by have := hk.1; omega⟩
theorem isB_iff (h : k < t.length) : isB t t.length k ↔ t.take k = t.drop (t.length - k) := by
  constructor
  · intro ⟨a1, a2, a3⟩
    apply List.ext_getElem?
    intro j
    rw [List.getElem?_take, List.getElem?_drop]
    by_cases q : j < k
    · rw [if_pos q]; exact a3 j q
    · rw [if_neg q, List.getElem?_eq_none (by omega)]
  · intro e
    refine ⟨h, Nat.le_refl _, fun j hj => ?_⟩
    have := congrArg (fun l => l[j]?) e
    simp only [List.getElem?_take, List.getElem?_drop] at this
    rw [if_pos hj] at this
    exact this
end
theorem filter_ge {p : Nat → Bool} {n k : Nat} (hk : k < n) (hp : p k = true) : (List.range n).filter (fun j => p j && decide (k ≤ j)) = k :: (List.range n).filter (fun j => p j && decide (k < j)) := by
  induction n with
  | zero => omega
  | succ n ih =>
    rw [range_filter_succ, range_filter_succ]
    by_cases q : k = n
    · subst q
      have e1 : (List.range k).filter (fun j => p j && decide (k ≤ j)) = [] := by
        rw [List.filter_eq_nil_iff]; intro j hj; rw [List.mem_range] at hj; simp; intro _; omega
      have e2 : (List.range k).filter (fun j => p j && decide (k < j)) = [] := by
        rw [List.filter_eq_nil_iff]; intro j hj; rw [List.mem_range] at hj; simp; intro _; omega
      rw [e1, e2]
      simp [hp]
    · rw [ih (by omega)]
      have h1 : k ≤ n := by omega
      have h2 : k < n := by omega
      simp [h1, h2]
end Ov
namespace Ov
open PySem (Str)
open MV
theorem enum_get {t : List Str} {i : Nat} {d : D} (h : (enumD (t.map D.str))[i]? = some d) : ∃ hi : i < t.length, d = .tup [.int (i : Int), .str t[i]] := by
  have hi : i < t.length := by
    have := (List.getElem?_eq_some_iff.mp h).1
    rw [enumD_len, List.length_map] at this; exact this
  refine ⟨hi, ?_⟩
  unfold enumD at h
  simp [hi] at h
  exact h.symm
theorem dT_at {t : List Str} {k : Nat} (h : k < t.length) : L2.atI (t.map D.str) (k : Int) = some (.str t[k]) := by
  rw [atI_eq, List.getElem?_map, List.getElem?_eq_getElem h]; rfl
theorem dN_at {l : List Nat} {k : Nat} (h : k < l.length) : L2.atI (l.map fun k : Nat => D.int (k : Int)) (k : Int) = some (.int (l[k] : Nat)) := by
  rw [atI_eq, List.getElem?_map, List.getElem?_eq_getElem h]; rfl
def Gs (t : List Str) (G : List Nat) (i : Nat) : Prop := G.length = i ∧ ∀ m, m < i → ∃ g, G[m]? = some g ∧ isG t (m + 1) g
theorem gb_while {t : List Str} {G : List Nat} {i k : Nat} (hl : t.length ≤ 1000) (hi : i < t.length) (h0 : 0 < i) (hG : Gs t G i) (hk : isG t i k) :
    ∃ k', sWhile T_greatest_borders_l1 B_greatest_borders_l2 WFUEL [some (dT t), some (dN G), some (.int k), some (.int i), some (.str t[i])] = .ok .nx [some (dT t), some (dN G), some (.int (k' : Nat)), some (.int i), some (.str t[i])] ∧ isB t i k' ∧ (∀ k2, isB t i k2 → t[k2]? = t[i]? → k2 ≤ k') ∧ (k' = 0 ∨ t[k']? = t[i]?) := by
  obtain ⟨e', h1, k', rfl, h2⟩ := while_inv (t := T_greatest_borders_l1) (b := B_greatest_borders_l2)
    (fun e => ∃ k' : Nat, e = [some (dT t), some (dN G), some (.int (k' : Nat)), some (.int i), some (.str t[i])] ∧ isB t i k' ∧ (∀ k2, isB t i k2 → t[k2]? = t[i]? → k2 ≤ k'))
    (fun e => match (e[2]? : Option (Option D)) with | some (some (D.int k)) => k.toNat | _ => 0)
    (fun e => ∃ k' : Nat, e = [some (dT t), some (dN G), some (.int (k' : Nat)), some (.int i), some (.str t[i])] ∧ isB t i k' ∧ (∀ k2, isB t i k2 → t[k2]? = t[i]? → k2 ≤ k') ∧ (k' = 0 ∨ t[k']? = t[i]?))
    (fun e he => by
      obtain ⟨k', rfl, q1, q2⟩ := he
      have hk' : k' < t.length := by have := q1.1; omega
      by_cases c1 : k' = 0
      · refine ⟨false, _, ?_, k', rfl, q1, q2, .inl c1⟩
        subst c1
        simp [T_greatest_borders_l1]
      · have c1' : 0 < k' := by omega
        by_cases c2 : t[k'] = t[i]
        · refine ⟨false, _, ?_, k', rfl, q1, q2, .inr (by rw [List.getElem?_eq_getElem hk', List.getElem?_eq_getElem hi, c2])⟩
          simp [T_greatest_borders_l1, c1', dT_at hk', c2]
        · obtain ⟨g, g1, g2⟩ := hG.2 (k' - 1) (by have := q1.1; omega)
          rw [show k' - 1 + 1 = k' by omega] at g2
          have hgl : k' - 1 < G.length := by have := q1.1; rw [hG.1]; omega
          have ga : L2.atI (G.map fun k : Nat => D.int (k : Int)) ((k' : Int) - 1) = some (.int (g : Nat)) := by
            rw [show ((k' : Int) - 1) = ((k' - 1 : Nat) : Int) by omega, dN_at hgl]
            rw [List.getElem?_eq_getElem hgl] at g1; rw [Option.some.inj g1]
          refine ⟨true, [some (dT t), some (dN G), some (.int (k' : Nat)), some (.int i), some (.str t[i])], ?_, ?_⟩
          · simp [T_greatest_borders_l1, c1', dT_at hk', c2]
          · rw [if_pos rfl]
            refine ⟨.nx, [some (dT t), some (dN G), some (.int (g : Nat)), some (.int i), some (.str t[i])], ?_, .inl rfl, ⟨g, rfl, isB_trans q1 g2.1, fun k2 b1 b2 => ?_⟩, ?_⟩
            · simp [B_greatest_borders_l2, ga]
            · have := q2 k2 b1 b2
              have ne : k2 ≠ k' := fun e => by
                subst e
                rw [List.getElem?_eq_getElem hk', List.getElem?_eq_getElem hi] at b2
                exact c2 (Option.some.inj b2)
              exact g2.2 _ (isB_down q1 b1 (by omega))
            · show (g : Int).toNat < (k' : Int).toNat
              have := g2.1.1; omega)
    WFUEL [some (dT t), some (dN G), some (.int k), some (.int i), some (.str t[i])] ⟨k, rfl, hk.1, fun k2 b1 _ => hk.2 k2 b1⟩ (by show (k : Int).toNat < 1000000; have := hk.1.1; omega)
  exact ⟨k', h1, h2⟩
theorem isG_next {t : List Str} {i k : Nat} (hi : i < t.length) (h1 : isB t i k) (h2 : ∀ k2, isB t i k2 → t[k2]? = t[i]? → k2 ≤ k) (h3 : k = 0 ∨ t[k]? = t[i]?) : isG t (i + 1) (k + if t[k]? = t[i]? then 1 else 0) := by
  by_cases c : t[k]? = t[i]?
  · rw [if_pos c]
    refine ⟨(isB_succ hi).mpr ⟨h1, c⟩, fun m hm => ?_⟩
    cases m with
    | zero => omega
    | succ m =>
      obtain ⟨a1, a2⟩ := (isB_succ hi).mp hm
      have := h2 m a1 a2; omega
  · rw [if_neg c]
    have hk : k = 0 := h3.resolve_right c
    subst hk
    refine ⟨isB_zero (by omega) (by omega), fun m hm => ?_⟩
    cases m with
    | zero => omega
    | succ m =>
      obtain ⟨a1, a2⟩ := (isB_succ hi).mp hm
      have := h2 m a1 a2
      have : m = 0 := by omega
      subst this; exact absurd a2 c
theorem gb_row {t : List Str} {G : List Nat} {i k : Nat} (hl : t.length ≤ 1000) (hi : i < t.length) (hG : Gs t G i) (hk : (i = 0 ∧ k = 0) ∨ isG t i k) :
    ∃ k', B_greatest_borders_l3 [some (dT t), some (dN G), some (.int k), some (.int i), some (.str t[i])] = .ok .nx [some (dT t), some (dN (G ++ [k'])), some (.int (k' : Nat)), some (.int i), some (.str t[i])] ∧ Gs t (G ++ [k']) (i + 1) ∧ isG t (i + 1) k' := by
  have hL : G.length < LIM := by rw [hG.1]; show _ < 100000; omega
  have gs : ∀ k', isG t (i + 1) k' → Gs t (G ++ [k']) (i + 1) := fun k' h => by
    refine ⟨by rw [List.length_append, hG.1]; rfl, fun m hm => ?_⟩
    by_cases q : m = i
    · subst q; exact ⟨k', by rw [List.getElem?_append_right (by rw [hG.1]; omega), hG.1]; simp, h⟩
    · obtain ⟨g, g1, g2⟩ := hG.2 m (by omega)
      exact ⟨g, by rw [List.getElem?_append_left (by rw [hG.1]; omega)]; exact g1, g2⟩
  rcases hk with ⟨rfl, rfl⟩ | hk
  · have : isG t (0 + 1) 0 := isG_one (by omega)
    refine ⟨0, ?_, gs 0 this, this⟩
    simp [B_greatest_borders_l3, hL]
  · have h0 : 0 < i := by have := hk.1.1; omega
    obtain ⟨k', w1, w2, w3, w4⟩ := gb_while hl hi h0 hG hk
    have hk' : k' < t.length := by have := w2.1; omega
    have g := isG_next hi w2 w3 w4
    refine ⟨k' + if t[k']? = t[i]? then 1 else 0, ?_, gs _ g, g⟩
    rw [List.getElem?_eq_getElem hk', List.getElem?_eq_getElem hi]
    by_cases c : t[k'] = t[i]
    · simp [B_greatest_borders_l3, h0, w1, dT_at hk', c, hL]
    · simp [B_greatest_borders_l3, h0, w1, dT_at hk', c, hL]
theorem gb_val {t : List Str} (hl : t.length ≤ 1000) : ∃ G, F_greatest_borders [dT t] = .ok (dN G) (dT t) ∧ Gs t G t.length := by
  obtain ⟨e', h1, G, k, e3, e4, rfl, q1, q2⟩ := for_inv (tg := tgT [3, 4]) (b := B_greatest_borders_l3) (ds := enumD (t.map D.str)) (e := [some (dT t), some (.lst []), some (.int 0), none, none])
    (fun i e => ∃ G k e3 e4, e = [some (dT t), some (dN G), some (.int (k : Nat)), e3, e4] ∧ Gs t G i ∧ ((i = 0 ∧ k = 0) ∨ isG t i k))
    ⟨[], 0, none, none, rfl, ⟨rfl, fun m hm => by omega⟩, .inl ⟨rfl, rfl⟩⟩
    (fun i d e hd hi => by
      obtain ⟨G, k, e3, e4, rfl, q1, q2⟩ := hi
      obtain ⟨hi, rfl⟩ := enum_get hd
      obtain ⟨k', a1, a2, a3⟩ := gb_row hl hi q1 q2
      exact ⟨_, _, .nx, rfl, a1, .inl rfl, _, k', _, _, rfl, a2, .inr a3⟩)
  rw [enumD_len, List.length_map] at q1
  refine ⟨G, ?_, q1⟩
  simp only [F_greatest_borders, r_runF, B_greatest_borders]
  simp [hsz0, h1]
def bdUp (t : List Str) (k : Nat) : List Nat := ((List.range t.length).filter fun j => decide (t.take j = t.drop (t.length - j)) && decide (k < j)).reverse
theorem bdUp_snoc {t : List Str} {k : Nat} (h : isB t t.length k) : bdUp t k ++ [k] = ((List.range t.length).filter fun j => decide (t.take j = t.drop (t.length - j)) && decide (k ≤ j)).reverse := by
  rw [filter_ge h.1 (decide_eq_true ((isB_iff h.1).mp h)), List.reverse_cons]; rfl
theorem bdUp_step {t : List Str} {k g : Nat} (h : isB t t.length k) (hg : isG t k g) : bdUp t k ++ [k] = bdUp t g := by
  rw [bdUp_snoc h]
  unfold bdUp
  congr 1
  apply List.filter_congr
  intro j hj
  rw [List.mem_range] at hj
  by_cases c : t.take j = t.drop (t.length - j)
  · have hb := (isB_iff hj).mpr c
    have : k ≤ j ↔ g < j := by
      constructor
      · intro _; have := hg.1.1; omega
      · intro hlt
        by_cases q : k ≤ j
        · exact q
        · have := hg.2 j (isB_down h hb (by omega)); omega
    simp [this]
  · simp [c]
theorem bdUp_zero {t : List Str} (h : 0 < t.length) : (bdUp t 0 ++ [0]).reverse = bord t := by
  rw [bdUp_snoc (isB_zero h (Nat.le_refl _)), List.reverse_reverse]
  unfold bord
  simp
theorem bdUp_len (t : List Str) (k : Nat) : (bdUp t k).length ≤ t.length := by
  unfold bdUp
  rw [List.length_reverse]
  exact Nat.le_trans (List.length_filter_le _ _) (by rw [List.length_range]; exact Nat.le_refl _)
theorem bdUp_top {t : List Str} {g : Nat} (hg : isG t t.length g) : bdUp t g = [] := by
  unfold bdUp
  rw [List.reverse_eq_nil_iff, List.filter_eq_nil_iff]
  intro j hj
  rw [List.mem_range] at hj
  simp
  intro c
  exact hg.2 j ((isB_iff hj).mpr c)
theorem Gs.at {t : List Str} {G : List Nat} {i m : Nat} (h : Gs t G i) (hm : m < i) : ∃ g : Nat, L2.atI (G.map fun k : Nat => D.int (k : Int)) (m : Int) = some (.int (g : Nat)) ∧ isG t (m + 1) g := by
  obtain ⟨g, g1, g2⟩ := h.2 m hm
  have hgl : m < G.length := by rw [h.1]; exact hm
  refine ⟨g, ?_, g2⟩
  rw [dN_at hgl]
  rw [List.getElem?_eq_getElem hgl] at g1; rw [Option.some.inj g1]
theorem borders_val {t : List Str} (ht : Tx t) (hl : t.length ≤ 1000) : F_borders [dT t] = .ok (dN (bord t)) (dT t) := by
  have hns := need_signs_val ht (show t.length ≤ 100000 by omega)
  by_cases h0 : t = []
  · subst h0
    simp only [F_borders, r_runF, B_borders]
    simp [hns, hsz0, bord, gNe_nT okNil]
  · have hp : 0 < t.length := List.length_pos_iff.mpr h0
    obtain ⟨G, G1, G2⟩ := gb_val hl
    obtain ⟨g, g1, g2⟩ := G2.at (m := t.length - 1) (by omega)
    rw [show t.length - 1 + 1 = t.length by omega] at g2
    have g1 : L2.atI (G.map fun k : Nat => D.int (k : Int)) (-1) = some (.int (g : Nat)) := by
      rw [atI_neg1, List.getLast?_eq_getElem?, List.length_map, G2.1, ← atI_eq]
      exact g1
    obtain ⟨e', h1, k', rfl, -⟩ := while_inv (t := T_borders_l1) (b := B_borders_l2)
      (fun e => ∃ k' : Nat, e = [some (dT t), some (dN (bdUp t k')), some (dN G), some (.int (k' : Nat))] ∧ isB t t.length k')
      (fun e => match (e[3]? : Option (Option D)) with | some (some (D.int k)) => k.toNat | _ => 0)
      (fun e => ∃ k' : Nat, e = [some (dT t), some (dN (bdUp t 0)), some (dN G), some (.int 0)] ∧ isB t t.length k')
      (fun e he => by
        obtain ⟨k', rfl, q1⟩ := he
        by_cases c1 : k' = 0
        · subst c1
          refine ⟨false, _, ?_, 0, rfl, q1⟩
          simp [T_borders_l1]
        · have c1' : 0 < k' := by omega
          obtain ⟨m, m1, m2⟩ := G2.at (m := k' - 1) (by have := q1.1; omega)
          rw [show k' - 1 + 1 = k' by omega] at m2
          rw [show ((k' - 1 : Nat) : Int) = (k' : Int) - 1 by omega] at m1
          refine ⟨true, [some (dT t), some (dN (bdUp t k')), some (dN G), some (.int (k' : Nat))], ?_, ?_⟩
          · simp [T_borders_l1, c1']
          · rw [if_pos rfl]
            refine ⟨.nx, [some (dT t), some (dN (bdUp t m)), some (dN G), some (.int (m : Nat))], ?_, .inl rfl, ⟨m, rfl, isB_trans q1 m2.1⟩, ?_⟩
            · have hL : (bdUp t k').length < LIM := by have := bdUp_len t k'; show _ < 100000; omega
              rw [← bdUp_step q1 m2]
              simp [B_borders_l2, hL, m1]
            · show (m : Int).toNat < (k' : Int).toNat
              have := m2.1.1; omega)
      WFUEL [some (dT t), some (.lst []), some (dN G), some (.int (g : Nat))] ⟨g, by rw [bdUp_top g2]; rfl, g2.1⟩ (by show (g : Int).toNat < 1000000; have := g2.1.1; omega)
    have hL : (bdUp t 0).length < LIM := by have := bdUp_len t 0; show _ < 100000; omega
    rw [← bdUp_zero hp]
    simp only [F_borders, r_runF, B_borders]
    simp [hns, hsz0, gNe_nT ht.ok, h0, G1, g1, h1, hL]
end Ov
namespace Ov
open PySem (Str PyData)
open MV
theorem for_cells {b : M Fl} {m : Nat} {q : D} (h : ∀ (c : Int) (xs : List (Option D)), xs.length = m → ∃ ys, ys.length = m ∧ b (some q :: some (.int c) :: xs) = .ok .nx (some q :: some (.int c) :: ys)) :
    ∀ (cs : List Int) (x1 : Option D) (xs : List (Option D)), xs.length = m → ∃ y1 ys, ys.length = m ∧ sForL (tgN 1) b (cs.map D.int) (some q :: x1 :: xs) = .ok .nx (some q :: y1 :: ys)
  | [], x1, xs, hx => ⟨x1, xs, hx, rfl⟩
  | c :: cs, x1, xs, hx => by
    obtain ⟨ys, h1, h2⟩ := h c xs hx
    obtain ⟨y1, zs, h3, h4⟩ := for_cells h cs (some (.int c)) ys h1
    refine ⟨y1, zs, h3, ?_⟩
    rw [List.map_cons, sForL, bnd_of_ok (r_tgN (i := 1)), List.set_cons_succ, List.set_cons_zero, bnd_of_ok h2]
    exact h4
def isSg (x : Str) : Bool := decide (x.length = 1) && x.cps.toList.all fun c => decide (97 ≤ c) && decide (c ≤ 122)
def Gd (t : List Str) : Prop := ∀ x ∈ t, okS x ∧ x.length ≤ 100
theorem Tx.gd {t : List Str} (h : Tx t) : Gd t := fun x hx => ⟨(h x hx).ok, by obtain ⟨c, rfl, _⟩ := h x hx; show 1 ≤ 100; decide⟩
theorem Gd.ok {t : List Str} (h : Gd t) : ∀ x ∈ t, okS x := fun x hx => (h x hx).1
theorem Gd.append {t u : List Str} (h : Gd t) (h2 : Gd u) : Gd (t ++ u) := fun x hx => (List.mem_append.mp hx).elim (h x) (h2 x)
abbrev everyS : Str := Str.ofString "abcdefghijklmnopqrstuvwxyz"
theorem every_at {r : Nat} (hr : r < 26) : ∃ c, L2.atI everyS.cps.toList (r : Int) = some c ∧ Sg ⟨#[c]⟩ := lt_all.at hr
theorem strs_all (l : List Str) : ∀ x ∈ l.map D.str, x.sc = true := fun x h => by
  obtain ⟨y, _, rfl⟩ := List.mem_map.mp h
  rfl
end Ov
namespace Ov
open PySem (Str PyData)
open MV
def Lay (n : Nat) (d : D) : Prop := ∃ p, d.toP = some p ∧ p.canLay0 = true ∧ p.depth ≤ n
theorem lay_int {n : Nat} (i : Int) : Lay n (.int i) := ⟨.int i, rfl, by simp [PyData.canLay0], by simp [PyData.depth]⟩
theorem lay_bl {n : Nat} (i : Bool) : Lay n (.bl i) := ⟨.bool i, rfl, by simp [PyData.canLay0], by simp [PyData.depth]⟩
theorem lay_str {n : Nat} {x : Str} (h : okS x) : Lay n (.str x) := ⟨.str x, rfl, by simp [PyData.canLay0]; exact h, by simp [PyData.depth]⟩
theorem lay_all {n : Nat} : ∀ {l : List D}, (∀ x ∈ l, Lay n x) → ∃ ps, toPs l = some ps ∧ PyData.canLayAll0 ps = true ∧ PyData.depthAll ps ≤ n
  | [], _ => ⟨[], rfl, by simp [PyData.canLayAll0], by simp [PyData.depthAll]⟩
  | d :: l, h => by
    obtain ⟨p, h1, h2, h3⟩ := h d List.mem_cons_self
    obtain ⟨ps, g1, g2, g3⟩ := lay_all (l := l) fun x hx => h x (List.mem_cons_of_mem _ hx)
    refine ⟨p :: ps, by rw [toPs, h1, g1], by rw [PyData.canLayAll0, h2, g2]; rfl, ?_⟩
    rw [PyData.depthAll]
    omega
theorem lay_lst {n : Nat} {l : List D} (h : ∀ x ∈ l, Lay n x) : Lay (n + 1) (.lst l) := by
  obtain ⟨ps, g1, g2, g3⟩ := lay_all h
  exact ⟨.list ps, toP_lst g1, by rw [PyData.canLay0]; exact g2, by rw [PyData.depth]; omega⟩
theorem lay_tup {n : Nat} {l : List D} (h : ∀ x ∈ l, Lay n x) : Lay (n + 1) (.tup l) := by
  obtain ⟨ps, g1, g2, g3⟩ := lay_all h
  exact ⟨.tuple ps, toP_tup g1, by rw [PyData.canLay0]; exact g2, by rw [PyData.depth]; omega⟩
theorem Lay.le {n m : Nat} (h : n ≤ m) {d : D} (l : Lay n d) : Lay m d := let ⟨p, a, b, c⟩ := l; ⟨p, a, b, Nat.le_trans c h⟩
theorem deq_self {d : D} (h : Lay 64 d) : deq d d = some true := by
  obtain ⟨p, h1, h2, h3⟩ := h
  cases d with
  | lst l =>
    show (match (D.lst l).toP, (D.lst l).toP with | some p, some q => if PySem.SeqAt.shaped p && PySem.SeqAt.shaped q then some (PyData.eqv p q) else none | _, _ => none) = _
    rw [h1]
    have : PySem.SeqAt.shaped p = true := by unfold PySem.SeqAt.shaped; rw [h2, decide_eq_true h3]; rfl
    simp only [this, Bool.and_self, if_true, PySem.SeqAt.eqv_refl p h2]
  | tup l =>
    show (match (D.tup l).toP, (D.tup l).toP with | some p, some q => if PySem.SeqAt.shaped p && PySem.SeqAt.shaped q then some (PyData.eqv p q) else none | _, _ => none) = _
    rw [h1]
    have : PySem.SeqAt.shaped p = true := by unfold PySem.SeqAt.shaped; rw [h2, decide_eq_true h3]; rfl
    simp only [this, Bool.and_self, if_true, PySem.SeqAt.eqv_refl p h2]
  | int i => simp [deq]
  | str i => simp [deq]
  | bl i => cases i <;> rfl
  | non => rfl
  | dic _ => cases h1
  | dit _ => cases h1
  | exc _ => cases h1
theorem gNe_self {d : D} (h : Lay 64 d) : gNe d d = some (.bl false) := by unfold gNe; rw [deq_self h]; rfl
theorem gEq_self {d : D} (h : Lay 64 d) : gEq d d = some (.bl true) := by unfold gEq; rw [deq_self h]; rfl
theorem mulOk_small {i j : Int} (h1 : -(2 ^ 64) < i) (h2 : i < 2 ^ 64) : mulOk i j = true := by
  unfold mulOk
  rw [Bool.or_eq_true]
  exact .inl (decide_eq_true (.inl ⟨h1, h2⟩))
theorem letter_at {r : Nat} (hr : r < 26) : ∃ x, gIx (.str (Str.ofString "abcdefghijklmnopqrstuvwxyz")) (.int r) = some (.str x) ∧ Sg x := by
  obtain ⟨c, h1, h2⟩ := every_at hr
  refine ⟨⟨#[c]⟩, ?_, h2⟩
  have le : (Str.ofString "abcdefghijklmnopqrstuvwxyz").length ≤ LIM := by decide +kernel
  rw [gIx_s, if_pos le]
  have h1 : L2.atI (Str.ofString "abcdefghijklmnopqrstuvwxyz").cps.toList (r : Int) = some c := h1
  rw [h1]; rfl
def wayson (w : List Str) : List Nat := (List.range' 1 w.length).filter fun d => decide (w.drop d = w.take (w.length - d))
theorem wayson_le {w : List Str} {d : Nat} (h : d ∈ wayson w) : 1 ≤ d ∧ d ≤ w.length := by
  unfold wayson at h
  rw [List.mem_filter, List.mem_range'] at h
  obtain ⟨⟨i, h1, h2⟩, _⟩ := h
  omega
end Ov
namespace Ov
open PySem (Str PyData)
open MV
theorem str_at {l : List Str} (hl : Tx l) {r : Nat} (hr : r < l.length) : ∃ x, L2.atI (l.map D.str) (r : Int) = some (.str x) ∧ Sg x := by
  refine ⟨l[r], ?_, hl _ (List.getElem_mem hr)⟩
  rw [atI_eq, List.getElem?_map, List.getElem?_eq_getElem hr]; rfl
theorem mapA (a b : List Str) : a.map D.str ++ b.map D.str = (a ++ b).map D.str := by rw [List.map_append]
theorem gMul_dT {t : List Str} {k : Nat} (h : t.length * k ≤ 100000) (hk : k ≤ 100000) : gMul (dT t) (.int (k : Int)) = some (dT (List.replicate k t).flatten) := by
  show (if (t.map D.str).length * (k : Int).toNat ≤ LIM ∧ -(2 ^ 63) ≤ (k : Int) ∧ (k : Int) < 2 ^ 63 then some (D.lst (List.replicate (k : Int).toNat (t.map D.str)).flatten) else none) = _
  rw [if_pos ⟨by rw [List.length_map, Int.toNat_natCast]; exact h, by omega, by omega⟩, Int.toNat_natCast]
  show _ = some (D.lst ((List.replicate k t).flatten.map D.str))
  rw [List.map_flatten, List.map_replicate]
theorem tx_rep {t : List Str} (h : Tx t) (k : Nat) : Tx (List.replicate k t).flatten := fun x hx => by
  obtain ⟨l, hl, hx⟩ := List.mem_flatten.mp hx
  rw [List.eq_of_mem_replicate hl] at hx
  exact h x hx
theorem rep_len (t : List Str) (k : Nat) : (List.replicate k t).flatten.length = k * t.length := by
  rw [List.length_flatten, List.map_replicate, List.sum_replicate_nat]
theorem min_nat (a b : Nat) : gMin2 [.int (a : Int), .int (b : Int)] = some (.int ((min a b : Nat) : Int)) := by
  rw [gMin2_i]
  by_cases h : (b : Int) < a
  · rw [if_pos h, show min a b = b by omega]
  · rw [if_neg h, show min a b = a by omega]
end Ov
namespace Ov
open PySem (Str PyData)
open MV
def Dk (l : List Int) : Prop := ∃ x y z, l = [x, y, z] ∧ 0 ≤ y ∧ y < 2147483629 ∧ 0 ≤ z
theorem mulOk_right {i j : Int} (h1 : -(2 ^ 64) < j) (h2 : j < 2 ^ 64) : mulOk i j = true := by
  unfold mulOk
  rw [Bool.or_eq_true]
  exact .inl (decide_eq_true (.inr ⟨h1, h2⟩))
theorem deck_ok (c : Int) : ∃ h io, F__law_deck [.int c] = .ok (dI h) io ∧ Dk h := by
  have hp : L2.CPow 10 18 := ⟨by decide, by decide, by decide⟩
  have hsz : (3 : Nat) ≤ PySem.sizeLine := by decide
  refine ⟨[if c - 10 ^ 18 > 0 then c - 10 ^ 18 else 0, c % 2147483629, 0], .int c, ?_, _, _, _, rfl, Int.emod_nonneg _ (by decide), Int.emod_lt_of_pos _ (by decide), Int.le_refl _⟩
  simp [F__law_deck, r_runF, B__law_deck, hp, hsz]
theorem dtake_ok {h : List Int} {m : Int} (hh : Dk h) (hm : 0 < m) : ∃ (r : Nat) (h' : List Int), F__law_take_v3 [dI h, .int m] = .ok (.int r) (dI h') ∧ (r : Int) < m ∧ Dk h' := by
  obtain ⟨x, y, z, rfl, h1, h2, h3⟩ := hh
  have hd : divW 65536 = true := by decide +kernel
  by_cases hx : 0 < x
  · refine ⟨(x % 65536 % m).toNat, [x / 65536, y, z + 1], ?_, ?_, x / 65536, y, z + 1, rfl, h1, h2, by omega⟩
    · rw [Int.toNat_of_nonneg (Int.emod_nonneg _ (by omega))]
      simp [F__law_take_v3, r_runF, B__law_take_v3, L2.atI, L2.ixN, hx, hm, hd]
    · rw [Int.toNat_of_nonneg (Int.emod_nonneg _ (by omega))]; exact Int.emod_lt_of_pos _ hm
  · have m0 : mulOk 7919 (z + 1) = true := mulOk_small (by decide) (by decide)
    have m1 : mulOk (y + 7919 * (z + 1)) 48271 = true := mulOk_right (by decide) (by decide)
    generalize hA : (y + 7919 * (z + 1)) * 48271 % 2147483647 = A
    have a0 : 0 ≤ A := by rw [← hA]; exact Int.emod_nonneg _ (by decide)
    have a1 : A < 2147483647 := by rw [← hA]; exact Int.emod_lt_of_pos _ (by decide)
    have m2 : mulOk A A = true := mulOk_small (by omega) (by omega)
    generalize hB : A * A % 2147483629 = B
    have m3 : mulOk 40692 (z + 1) = true := mulOk_small (by decide) (by decide)
    have m4 : mulOk (B + 40692 * (z + 1)) 69621 = true := mulOk_right (by decide) (by decide)
    have d8 : L2.CDiv ((B + 40692 * (z + 1)) * 69621 % 2147483563) 8 := ⟨by decide, by decide⟩
    refine ⟨((B + 40692 * (z + 1)) * 69621 % 2147483563 / 8 % m).toNat, [x, y, z + 1], ?_, ?_, x, y, z + 1, rfl, h1, h2, by omega⟩
    · rw [Int.toNat_of_nonneg (Int.emod_nonneg _ (by omega))]
      simp [F__law_take_v3, r_runF, B__law_take_v3, L2.atI, L2.ixN, hx, hm, m0, m1, hA, m2, hB, m3, m4, d8]
    · rw [Int.toNat_of_nonneg (Int.emod_nonneg _ (by omega))]; exact Int.emod_lt_of_pos _ hm
theorem dk_nat {h : List Int} {m : Nat} (hh : Dk h) (hm : 0 < m) : ∃ (r : Nat) (h' : List Int), F__law_take_v3 [dI h, .int m] = .ok (.int r) (dI h') ∧ r < m ∧ Dk h' := by
  obtain ⟨r, h', a, b, c⟩ := dtake_ok (m := m) hh (by omega)
  exact ⟨r, h', a, by omega, c⟩
theorem dletters_ok {h : List Int} (hh : Dk h) : ∃ l h', F__law_letters_v3 [dI h] = .ok (dT l) (dI h') ∧ Tx l ∧ 0 < l.length ∧ l.length ≤ 26 ∧ Dk h' := by
  obtain ⟨r1, h1, a1, a2, a3⟩ := dk_nat (m := 26) hh (by decide)
  obtain ⟨r2, h2, b1, b2, b3⟩ := dk_nat (m := 12) a3 (by decide)
  obtain ⟨r3, h3, c1, c2, c3⟩ := dk_nat (m := 6) b3 (by decide)
  have a1 : F__law_take_v3 [dI h, .int 26] = .ok (.int r1) (dI h1) := a1
  have b1 : F__law_take_v3 [dI h1, .int 12] = .ok (.int r2) (dI h2) := b1
  have c1 : F__law_take_v3 [dI h2, .int 6] = .ok (.int r3) (dI h3) := c1
  obtain ⟨st, s1, s2⟩ : ∃ st : Nat, L2.atI [D.int 1, .int 3, .int 5, .int 7, .int 9, .int 11, .int 15, .int 17, .int 19, .int 21, .int 23, .int 25] (r2 : Int) = some (.int st) ∧ st ≤ 25 := by
    rw [atI_eq]
    match r2, b2 with
    | 0, _ => exact ⟨1, rfl, by decide⟩
    | 1, _ => exact ⟨3, rfl, by decide⟩
    | 2, _ => exact ⟨5, rfl, by decide⟩
    | 3, _ => exact ⟨7, rfl, by decide⟩
    | 4, _ => exact ⟨9, rfl, by decide⟩
    | 5, _ => exact ⟨11, rfl, by decide⟩
    | 6, _ => exact ⟨15, rfl, by decide⟩
    | 7, _ => exact ⟨17, rfl, by decide⟩
    | 8, _ => exact ⟨19, rfl, by decide⟩
    | 9, _ => exact ⟨21, rfl, by decide⟩
    | 10, _ => exact ⟨23, rfl, by decide⟩
    | 11, _ => exact ⟨25, rfl, by decide⟩
  obtain ⟨mn, t1, t2, t3⟩ : ∃ mn : Nat, L2.atI [D.int 2, .int 2, .int 3, .int 26, .int 26, .int 1] (r3 : Int) = some (.int mn) ∧ 0 < mn ∧ mn ≤ 26 := by
    rw [atI_eq]
    match r3, c2 with
    | 0, _ => exact ⟨2, rfl, by decide, by decide⟩
    | 1, _ => exact ⟨2, rfl, by decide, by decide⟩
    | 2, _ => exact ⟨3, rfl, by decide, by decide⟩
    | 3, _ => exact ⟨26, rfl, by decide, by decide⟩
    | 4, _ => exact ⟨26, rfl, by decide, by decide⟩
    | 5, _ => exact ⟨1, rfl, by decide, by decide⟩
  have hs : smallI (mn : Int) = true := small_of (by omega) (by omega)
  have le : (Str.ofString "abcdefghijklmnopqrstuvwxyz").length ≤ LIM := by decide +kernel
  have z12 : (12 : Nat) ≤ PySem.sizeLine := by decide
  have z6 : (6 : Nat) ≤ PySem.sizeLine := by decide
  obtain ⟨acc, e', g1, t, rfl, rfl, q1, q2⟩ := lc_inv (is := [5]) (tg := tgN 5) (t := tTrue) (fe := e2 gIx (eV 1) (e2 gMod (e2 gAdd (eV 2) (e2 gMul (eV 3) (eV 5))) (eC (.int 26)))) (ds := rngD 0 mn)
    (fun i acc e => ∃ t, acc = t.map .str ∧ e = [some (dI h3), some (.str (Str.ofString "abcdefghijklmnopqrstuvwxyz")), some (.int r1), some (.int st), some (.int mn), none] ∧ Tx t ∧ t.length = i)
    [] [some (dI h3), some (.str (Str.ofString "abcdefghijklmnopqrstuvwxyz")), some (.int r1), some (.int st), some (.int mn), none] ⟨[], rfl, rfl, (fun _ hx => by cases hx), rfl⟩ (by rw [rngD_len]; show 0 + mn ≤ 100000; omega)
    (fun i d acc e hd hi => by
      obtain ⟨t, rfl, rfl, q1, q2⟩ := hi
      obtain ⟨hi, rfl⟩ := rng0_get hd
      have m1 : mulOk (st : Int) (i : Int) = true := mulOk_small (by omega) (by omega)
      obtain ⟨x, x1, x2⟩ := letter_at (r := (r1 + st * i) % 26) (Nat.mod_lt _ (by decide))
      have e1 : ((r1 : Int) + (st : Int) * (i : Int)) % 26 = (((r1 + st * i) % 26 : Nat) : Int) := by
        rw [Int.natCast_emod]; simp
      refine ⟨_, _, true, rfl, rfl, fun _ => ⟨.str x, [some (dI h3), some (.str (Str.ofString "abcdefghijklmnopqrstuvwxyz")), some (.int r1), some (.int st), some (.int mn), some (.int i)], ?_, t ++ [x], by simp, rfl, q1.append (fun y hy => by rw [List.mem_singleton.mp hy]; exact x2), by simp [q2]⟩, fun h => by cases h⟩
      simp [m1, e1, -gIx_s, x1, -Int.natCast_emod])
  rw [rngD_len] at q2
  refine ⟨t, h3, ?_, q1, by omega, by omega, c3⟩
  simp only [F__law_letters_v3, r_runF, B__law_letters_v3]
  simp [a1, b1, c1, s1, t1, hs, g1, z12, z6, List.all_map]
theorem dsigns_ok {l : List Str} (hl : Tx l) (h0 : 0 < l.length) {h : List Int} (hh : Dk h) {m : Nat} (hm : m ≤ 1000) : ∃ t h', F__law_signs_v3 [dI h, dT l, .int m] = .ok (dT t) (dI h') ∧ Tx t ∧ t.length = m ∧ Dk h' := by
  obtain ⟨acc, e', h1, ⟨t, h', rfl, rfl, q1, q2, q3⟩⟩ := lc_inv (is := [3]) (tg := tgN 3) (t := tTrue) (fe := e2 gIx (eV 1) (eCallW F__law_take_v3 0 (aCons (eN gLen (aCons (eV 1) aNil)) aNil))) (ds := rngD 0 m)
    (fun i acc e => ∃ t h', acc = t.map .str ∧ e = [some (dI h'), some (dT l), some (.int m), none] ∧ Tx t ∧ t.length = i ∧ Dk h')
    [] [some (dI h), some (dT l), some (.int m), none] ⟨[], h, rfl, rfl, (fun _ hx => by cases hx), rfl, hh⟩ (by rw [rngD_len]; show 0 + m ≤ 100000; omega)
    (fun i d acc e hd hi => by
      obtain ⟨t, h', rfl, rfl, q1, q2, q3⟩ := hi
      obtain ⟨r, h2, t1, t2, t3⟩ := dk_nat (m := l.length) q3 h0
      obtain ⟨x, x1, x2⟩ := str_at hl t2
      refine ⟨_, _, true, rfl, rfl, fun _ => ⟨.str x, [some (dI h2), some (dT l), some (.int m), some d], ?_, t ++ [x], h2, by simp, rfl, q1.append (fun y hy => by rw [List.mem_singleton.mp hy]; exact x2), by simp [q2], t3⟩, fun h => by cases h⟩
      simp [t1, x1, List.all_map])
  rw [rngD_len] at q2
  refine ⟨t, h', ?_, q1, q2, q3⟩
  have hs : smallI (m : Int) = true := small_of (by omega) (by omega)
  simp only [F__law_signs_v3, r_runF, B__law_signs_v3]
  simp [hs, h1, List.all_map]
theorem dword_ok {l : List Str} (hl : Tx l) (h0 : 0 < l.length) {most : Nat} (hm : 0 < most) (hm2 : most ≤ 100) {h : List Int} (hh : Dk h) : ∃ w h', F__law_word_v4 [dI h, dT l, .int most] = .ok (dT w) (dI h') ∧ Tx w ∧ 0 < w.length ∧ w.length ≤ 4 * most + 2 ∧ Dk h' := by
  obtain ⟨r1, h1, a1, a2, a3⟩ := dk_nat (m := 4) hh (by decide)
  obtain ⟨r2, h2, b1, b2, b3⟩ := dk_nat (m := most) a3 hm
  obtain ⟨one, h3, c1, c2, c3, c4⟩ := dsigns_ok hl h0 b3 (m := 1 + r2) (by omega)
  have a1 : F__law_take_v3 [dI h, .int 4] = .ok (.int r1) (dI h1) := a1
  have c1 : F__law_signs_v3 [dI h2, dT l, .int (1 + (r2 : Int))] = .ok (dT one) (dI h3) := c1
  have rc : r1 = 1 ∨ r1 = 2 ∨ (r1 ≠ 1 ∧ r1 ≠ 2) := by omega
  simp only [F__law_word_v4, r_runF, B__law_word_v4]
  rcases rc with rfl | rfl | ⟨n1, n2⟩
  · obtain ⟨r3, h4, d1, d2, d3⟩ := dk_nat (m := 3) c4 (by decide)
    obtain ⟨am, h5, e1, e2, e3, e4⟩ := dsigns_ok hl h0 d3 (m := r3) (by omega)
    have d1 : F__law_take_v3 [dI h3, .int 3] = .ok (.int r3) (dI h4) := d1
    have L1 : one.length + am.length ≤ LIM := by show _ ≤ 100000; omega
    have L2 : one.length + am.length + one.length ≤ LIM := by show _ ≤ 100000; omega
    refine ⟨one ++ am ++ one, h5, ?_, (c2.append e2).append c2, by rw [List.length_append, List.length_append]; omega, by rw [List.length_append, List.length_append]; omega, e4⟩
    simp [a1, b1, c1, d1, e1, L1, L2, mapA, List.all_map, -List.map_append, -List.append_assoc]
  · obtain ⟨r3, h4, d1, d2, d3⟩ := dk_nat (m := 3) c4 (by decide)
    obtain ⟨r4, h5, e1, e2, e3⟩ := dk_nat (m := one.length + 1) d3 (by omega)
    have d1 : F__law_take_v3 [dI h3, .int 3] = .ok (.int r3) (dI h4) := d1
    have e1 : F__law_take_v3 [dI h4, .int ((one.length : Int) + 1)] = .ok (.int r4) (dI h5) := e1
    have bd : one.length * (1 + r3) ≤ one.length * 3 := Nat.mul_le_mul (Nat.le_refl _) (by omega)
    have bd2 : one.length * 1 ≤ one.length * (1 + r3) := Nat.mul_le_mul (Nat.le_refl _) (by omega)
    have km : gMul (dT one) (.int (1 + (r3 : Int))) = some (dT (List.replicate (1 + r3) one).flatten) := by
      have := gMul_dT (t := one) (k := 1 + r3) (by omega) (by omega)
      exact this
    have rl := rep_len one (1 + r3)
    rw [Nat.mul_comm] at rl
    have tl : (one.take r4).length ≤ one.length := by rw [List.length_take]; omega
    have ct : cutA one none (some (r4 : Int)) = one.take r4 := cutA_to one r4
    refine ⟨(List.replicate (1 + r3) one).flatten ++ one.take r4, h5, ?_, (tx_rep c2 _).append (c2.take _), by rw [List.length_append]; omega, by rw [List.length_append]; omega, e3⟩
    have L1 : (List.replicate (1 + r3) one).flatten.length + (one.take r4).length ≤ LIM := by show _ ≤ 100000; omega
    generalize hR : (List.replicate (1 + r3) one).flatten = R at km L1
    generalize hT : one.take r4 = T at ct L1
    simp [a1, b1, c1, d1, km, e1, cutA_map, ct, L1, mapA, List.all_map, -List.map_append]
  · have p1 : ¬ (r1 : Int) = 1 := by omega
    have p2 : ¬ (r1 : Int) = 2 := by omega
    refine ⟨one, h3, ?_, c2, by omega, by omega, c4⟩
    simp [a1, b1, c1, n1, n2, p1, p2]
theorem doverlaid_ok {l w : List Str} (hl : Tx l) (h0 : 0 < l.length) (hw : Tx w) (w0 : 0 < w.length) (hw2 : w.length ≤ 100) {many : Nat} (hm : many ≤ 60) {h : List Int} (hh : Dk h) : ∃ t h', F__law_overlaid_v2 [dI h, dT l, dT w, .int many] = .ok (dT t) (dI h') ∧ Tx t ∧ w.length ≤ t.length ∧ t.length ≤ (many + 1) * (w.length + 1) ∧ Dk h' := by
  have hs : smallI (many : Int) = true := small_of (by omega) (by omega)
  have hs2 : smallI (w.length : Int) = true := small_of (by omega) (by omega)
  obtain ⟨e', g1, t, h', e5, e6, e7, rfl, q1, q2, q3, q4⟩ := for_inv (tg := tgN 5) (b := B__law_overlaid_v2_l1) (ds := rngD 0 many) (e := [some (dI h), some (dT l), some (dT w), some (.int many), some (dT w), none, none, none, none])
    (fun i e => ∃ t h' e5 e6 e7, e = [some (dI h'), some (dT l), some (dT w), some (.int many), some (dT t), e5, e6, e7, none] ∧ Tx t ∧ w.length ≤ t.length ∧ t.length ≤ (i + 1) * (w.length + 1) ∧ Dk h')
    ⟨w, h, none, none, none, rfl, hw, Nat.le_refl _, by omega, hh⟩
    (fun i d e hd hi => by
      obtain ⟨t, h', e5, e6, e7, rfl, q1, q2, q3, q4⟩ := hi
      obtain ⟨hi, rfl⟩ := rng0_get hd
      have bd : (i + 1) * (w.length + 1) ≤ 60 * 101 := Nat.mul_le_mul (by omega) (by omega)
      have lc := lc_nat (is := [8]) (tg := tgN 8) (t := tOr2 (tB (e2 gEq (eV 8) (eC (.int 0)))) (tB (e2 gEq (eSl (eV 4) (oSome (e2 gSub (eN gLen (aCons (eV 4) aNil)) (eV 8))) oNone) (eSl (eV 2) oNone (oSome (eV 8)))))) (fe := eV 8) (e := [some (dI h'), some (dT l), some (dT w), some (.int many), some (dT t), some (.int i), e6, e7, none]) (fun j => decide (j = 0) || decide (t.drop (t.length - j) = w.take j)) (fun k => .int (k : Int)) (List.range w.length) (by rw [List.length_range]; show _ ≤ 100000; omega)
        (fun k hk => by
          rw [List.mem_range] at hk
          refine ⟨_, [some (dI h'), some (dT l), some (dT w), some (.int many), some (dT t), some (.int i), e6, e7, some (.int k)], rfl, ?_, fun _ => ⟨_, rfl, rfl⟩, fun _ => rfl⟩
          have e2 : ((t.length : Int) - (k : Int)) = ((t.length - k : Nat) : Int) := by omega
          by_cases k0 : k = 0
          · subst k0; simp
          · have k0' : ¬ (k : Int) = 0 := by omega
            simp [k0, k0', cutA_map, cutA_from, e2, cutA_to, gEq_dT (q1.drop (t.length - k)).ok (hw.take k).ok, -List.map_take, -List.map_drop])
      rw [← rng0] at lc
      generalize hB : (List.range w.length).filter (fun j => decide (j = 0) || decide (t.drop (t.length - j) = w.take j)) = Bs at lc
      have hb0 : 0 < Bs.length := by
        rw [← hB]; apply List.length_pos_of_mem (a := 0)
        rw [List.mem_filter, List.mem_range]; exact ⟨w0, rfl⟩
      have hbl : ∀ j ∈ Bs, j < w.length := fun j hj => by
        rw [← hB, List.mem_filter, List.mem_range] at hj; exact hj.1
      obtain ⟨r1, h1, a1, a2, a3⟩ := dk_nat (m := Bs.length) q4 hb0
      have a1' : L2.atI (Bs.map fun k : Nat => D.int (k : Int)) (r1 : Int) = some (.int ((Bs[r1] : Nat) : Int)) := by
        rw [atI_eq, List.getElem?_map, List.getElem?_eq_getElem a2]; rfl
      have hov := hbl _ (List.getElem_mem a2)
      obtain ⟨r2, h2, b1, b2, b3⟩ := dk_nat (m := 8) a3 (by decide)
      have b1 : F__law_take_v3 [dI h1, .int 8] = .ok (.int r2) (dI h2) := b1
      have cf : ∀ k : Nat, cutA w (some (k : Int)) none = w.drop k := cutA_from w
      have mul1 : (i + 1 + 1) * (w.length + 1) = (i + 1) * (w.length + 1) + (w.length + 1) := by rw [Nat.succ_mul]
      by_cases hr : r2 = 0
      · subst hr
        obtain ⟨s, h3, c1, c2, c3, c4⟩ := dsigns_ok hl h0 b3 (m := 1) (by decide)
        have c1 : F__law_signs_v3 [dI h2, dT l, .int 1] = .ok (dT s) (dI h3) := c1
        have cf0 : cutA w (some 0) none = w := by have := cf 0; simpa using this
        have L1 : t.length + s.length ≤ LIM := by show _ ≤ 100000; omega
        have L2 : (t ++ s).length + w.length ≤ LIM := by rw [List.length_append]; show _ ≤ 100000; omega
        refine ⟨_, [some (dI h3), some (dT l), some (dT w), some (.int many), some (dT (t ++ s ++ w)), some (.int i), some (dN Bs), some (.int 0), none], .nx, rfl, ?_, .inl rfl, t ++ s ++ w, h3, _, _, _, rfl, (q1.append c2).append hw, by rw [List.length_append, List.length_append]; omega, by rw [List.length_append, List.length_append, mul1]; omega, c4⟩
        generalize hS : t ++ s = S at L2
        have mS : t.map D.str ++ s.map D.str = S.map D.str := by rw [← hS, List.map_append]
        have mW : S.map D.str ++ w.map D.str = (S ++ w).map D.str := by rw [List.map_append]
        simp [B__law_overlaid_v2_l1, hs2, lc, List.all_map, a1, a1', b1, c1, L1, mS, cutA_map, cf0, L2, mW, -List.map_append]
      · have hr' : ¬ (r2 : Int) = 0 := by omega
        have dl : (w.drop Bs[r1]).length ≤ w.length := by rw [List.length_drop]; omega
        have L1 : t.length + (w.drop Bs[r1]).length ≤ LIM := by show _ ≤ 100000; omega
        refine ⟨_, [some (dI h2), some (dT l), some (dT w), some (.int many), some (dT (t ++ w.drop Bs[r1])), some (.int i), some (dN Bs), some (.int (Bs[r1] : Nat)), none], .nx, rfl, ?_, .inl rfl, t ++ w.drop Bs[r1], h2, _, _, _, rfl, q1.append (hw.drop _), by rw [List.length_append]; omega, by rw [List.length_append, mul1]; omega, b3⟩
        have cw := cf Bs[r1]
        generalize w.drop Bs[r1] = W at cw L1
        simp [B__law_overlaid_v2_l1, hs2, lc, List.all_map, a1, a1', b1, hr, hr', cutA_map, cw, L1, mapA, -List.map_append])
  rw [rngD_len] at q3
  refine ⟨t, h', ?_, q1, q2, q3, q4⟩
  simp only [F__law_overlaid_v2, r_runF, B__law_overlaid_v2]
  simp [hs, List.all_map, g1]
theorem dbent_ok {l t : List Str} (hl : Tx l) (h0 : 0 < l.length) (ht : Tx t) (hl2 : t.length ≤ 1000) {h : List Int} (hh : Dk h) : ∃ t' h', F__law_bent [dI h, dT l, dT t] = .ok (dT t') (dI h') ∧ Tx t' ∧ t'.length ≤ t.length + 1 ∧ Dk h' := by
  obtain ⟨r1, h1, a1, a2, a3⟩ := dk_nat (m := t.length + 1) hh (by omega)
  obtain ⟨r2, h2, b1, b2, b3⟩ := dk_nat (m := 3) a3 (by decide)
  have a1 : F__law_take_v3 [dI h, .int ((t.length : Int) + 1)] = .ok (.int r1) (dI h1) := a1
  have b1 : F__law_take_v3 [dI h1, .int 3] = .ok (.int r2) (dI h2) := b1
  have ct := cutA_to t r1
  simp only [F__law_bent, r_runF, B__law_bent]
  by_cases hr : r2 = 0
  · subst hr
    have cf := cutA_from1 t r1
    refine ⟨t.take r1 ++ t.drop (r1 + 1), h2, ?_, (ht.take _).append (ht.drop _), by rw [List.length_append, List.length_take, List.length_drop]; omega, b3⟩
    have L1 : (t.take r1).length + (t.drop (r1 + 1)).length ≤ LIM := by rw [List.length_take, List.length_drop]; show _ ≤ 100000; omega
    generalize t.take r1 = A at ct L1
    generalize t.drop (r1 + 1) = B at cf L1
    simp [a1, b1, cutA_map, ct, cf, L1, mapA, List.all_map, -List.map_append]
  · have hr' : ¬ (r2 : Int) = 0 := by omega
    obtain ⟨s, h3, c1, c2, c3, c4⟩ := dsigns_ok hl h0 b3 (m := 1) (by decide)
    have c1 : F__law_signs_v3 [dI h2, dT l, .int 1] = .ok (dT s) (dI h3) := c1
    have cf : cutA t (some ((r1 : Int) + 2 - (r2 : Int))) none = t.drop (r1 + 2 - r2) := by
      rw [show (r1 : Int) + 2 - (r2 : Int) = ((r1 + 2 - r2 : Nat) : Int) by omega, cutA_from]
    refine ⟨t.take r1 ++ s ++ t.drop (r1 + 2 - r2), h3, ?_, ((ht.take _).append c2).append (ht.drop _), by rw [List.length_append, List.length_append, List.length_take, List.length_drop]; omega, c4⟩
    have L1 : (t.take r1).length + s.length ≤ LIM := by rw [List.length_take]; show _ ≤ 100000; omega
    have L2 : (t.take r1 ++ s).length + (t.drop (r1 + 2 - r2)).length ≤ LIM := by rw [List.length_append, List.length_take, List.length_drop]; show _ ≤ 100000; omega
    generalize t.take r1 = A at ct L1 L2
    generalize t.drop (r1 + 2 - r2) = B at cf L2
    generalize hS : A ++ s = S at L2
    have mS : A.map D.str ++ s.map D.str = S.map D.str := by rw [← hS, List.map_append]
    have mW : S.map D.str ++ B.map D.str = (S ++ B).map D.str := by rw [List.map_append]
    simp [a1, b1, hr, hr', c1, cutA_map, ct, cf, L1, mS, L2, mW, List.all_map, -List.map_append]
def pairT : M Fl := (sSeq (sSet 5 (eCallW F__law_take_v3 0 (aCons (e2 gIx (eN gLst (aCons (eC (.int 1)) (aCons (e2 gAdd (eN gLen (aCons (eV 3) aNil)) (eC (.int 1))) aNil))) (eCallW F__law_take_v3 0 (aCons (eC (.int 2)) aNil))) aNil)))
  (sSeq (sSet 6 (eCallW F__law_take_v3 0 (aCons (e2 gIx (eN gLst (aCons (eC (.int 1)) (aCons (e2 gAdd (eN gLen (aCons (eV 3) aNil)) (eC (.int 1))) aNil))) (eCallW F__law_take_v3 0 (aCons (eC (.int 2)) aNil))) aNil)))
  (sSeq (sSet 4 (eSl (eSl (eV 4) (oSome (eV 5)) oNone) oNone (oSome (eC (.int 200)))))
  (sSeq (sSet 4 (eSl (eV 4) oNone (oSome (e2 gSub (eN gLen (aCons (eV 4) aNil)) (eN gMin2 (aCons (eV 6) (aCons (eN gLen (aCons (eV 4) aNil)) aNil)))))))
  (sSeq (sIf (tB (e2 gEq (eCallW F__law_take_v3 0 (aCons (eC (.int 4)) aNil)) (eC (.int 0)))) (sSet 4 (eSl (eCallW F__law_bent 0 (aCons (eV 2) (aCons (eV 4) aNil))) oNone (oSome (eC (.int 200))))) sSkip)
  (sSeq (sIf (tB (e2 gEq (eCallW F__law_take_v3 0 (aCons (eC (.int 6)) aNil)) (eC (.int 0)))) (sSet 3 (eCallW F__law_bent 0 (aCons (eV 2) (aCons (eV 3) aNil)))) sSkip)
  (sRet (eN gTupD (aCons (eOrT (eV 4) (eSl (eV 2) oNone (oSome (eC (.int 1))))) (aCons (eOrT (eV 3) (eSl (eV 2) oNone (oSome (eC (.int 1))))) aNil)))))))))) 
theorem dcut_ok {w : List Str} {h : List Int} (hh : Dk h) : ∃ (r m k : Nat) (h1 h2 : List Int), F__law_take_v3 [dI h, .int 2] = .ok (.int k) (dI h1) ∧ L2.atI [D.int 1, .int ((w.length : Int) + 1)] (k : Int) = some (.int (m : Int)) ∧ F__law_take_v3 [dI h1, .int (m : Int)] = .ok (.int r) (dI h2) ∧ r ≤ w.length ∧ Dk h2 := by
  obtain ⟨k, h1, a1, a2, a3⟩ := dk_nat (m := 2) hh (by decide)
  have a1 : F__law_take_v3 [dI h, .int 2] = .ok (.int k) (dI h1) := a1
  match k, a2 with
  | 0, _ =>
    obtain ⟨r, h2, b1, b2, b3⟩ := dk_nat (m := 1) a3 (by decide)
    exact ⟨r, 1, 0, h1, h2, a1, rfl, b1, by omega, b3⟩
  | 1, _ =>
    obtain ⟨r, h2, b1, b2, b3⟩ := dk_nat (m := w.length + 1) a3 (by omega)
    exact ⟨r, w.length + 1, 1, h1, h2, a1, rfl, b1, by omega, b3⟩
theorem orT_ne {l t : List Str} (hl : Tx l) (h0 : 0 < l.length) (ht : Tx t) : ∃ u, Tx u ∧ u ≠ [] ∧ u.length ≤ max 1 t.length ∧ ∀ (e : PEnv) (i : Nat), e[i]? = some (some (dT t)) → e[2]? = some (some (dT l)) → eOrT (eV i) (eSl (eV 2) oNone (oSome (eC (.int 1)))) e = .ok (dT u) e := by
  have c1 : cutA l none (some (1 : Int)) = l.take 1 := cutA_to l 1
  cases t with
  | nil =>
    refine ⟨l.take 1, hl.take 1, fun h => ?_, by rw [List.length_take]; omega, fun e i h1 h2 => ?_⟩
    · have := congrArg List.length h; rw [List.length_take, List.length_nil] at this; omega
    · simp [h1, h2, cutA_map, c1, -List.map_take]
  | cons x r =>
    exact ⟨x :: r, ht, (fun h => by cases h), by omega, fun e i h1 h2 => by simp [h1]⟩
theorem pairT_ok {l w t : List Str} (hl : Tx l) (h0 : 0 < l.length) (hw : Tx w) (w0 : 0 < w.length) (hw2 : w.length ≤ 60) (ht : Tx t) {lg : D} {h : List Int} (hh : Dk h) {x5 x6 : Option D} :
    ∃ t' w' h' e, pairT [some (dI h), some lg, some (dT l), some (dT w), some (dT t), x5, x6] = .ok (.rt (.tup [dT t', dT w'])) (some (dI h') :: e) ∧ Tx t' ∧ t' ≠ [] ∧ t'.length ≤ 200 ∧ Tx w' ∧ w' ≠ [] ∧ w'.length ≤ w.length + 1 ∧ Dk h' := by
  have z2 : (2 : Nat) ≤ PySem.sizeLine := by decide
  obtain ⟨b, m1, k1, h1, h2, a1, a2, a3, a4, a5⟩ := dcut_ok (w := w) hh
  obtain ⟨n, m2, k2, h3, h4, b1, b2, b3, b4, b5⟩ := dcut_ok (w := w) a5
  have cf : cutA t (some (b : Int)) none = t.drop b := cutA_from t b
  have c200 : cutA (t.drop b) none (some (200 : Int)) = (t.drop b).take 200 := cutA_to _ 200
  generalize hA : (t.drop b).take 200 = A at c200
  have tA : Tx A := by rw [← hA]; exact (ht.drop b).take 200
  have lA : A.length ≤ 200 := by rw [← hA, List.length_take]; omega
  have mn := min_nat n A.length
  have sb : (A.length : Int) - ((min n A.length : Nat) : Int) = ((A.length - min n A.length : Nat) : Int) := by omega
  have cA := cutA_to A (A.length - min n A.length)
  generalize hB : A.take (A.length - min n A.length) = B at cA
  have tB : Tx B := by rw [← hB]; exact tA.take _
  have lB : B.length ≤ 200 := by rw [← hB, List.length_take]; omega
  obtain ⟨r1, h5, d1, d2, d3⟩ := dk_nat (m := 4) b5 (by decide)
  have d1 : F__law_take_v3 [dI h4, .int 4] = .ok (.int r1) (dI h5) := d1
  obtain ⟨C, h6, g1, tC, lC, g3⟩ : ∃ C h6, (sIf (MV.tB (e2 gEq (eCallW F__law_take_v3 0 (aCons (eC (.int 4)) aNil)) (eC (.int 0)))) (sSet 4 (eSl (eCallW F__law_bent 0 (aCons (eV 2) (aCons (eV 4) aNil))) oNone (oSome (eC (.int 200))))) sSkip) [some (dI h4), some lg, some (dT l), some (dT w), some (dT B), some (.int b), some (.int n)] = .ok .nx [some (dI h6), some lg, some (dT l), some (dT w), some (dT C), some (.int b), some (.int n)] ∧ Tx C ∧ C.length ≤ 200 ∧ Dk h6 := by
    by_cases hr : r1 = 0
    · subst hr
      obtain ⟨C, h6, c1, c2, c3, c4⟩ := dbent_ok hl h0 tB (by omega) d3
      have cc : cutA C none (some (200 : Int)) = C.take 200 := cutA_to C 200
      refine ⟨C.take 200, h6, ?_, c2.take _, by rw [List.length_take]; omega, c4⟩
      simp [d1, c1, cutA_map, cc, List.all_map, -List.map_take]
    · have hr' : ¬ (r1 : Int) = 0 := by omega
      exact ⟨B, h5, by simp [d1, hr, hr'], tB, lB, d3⟩
  obtain ⟨r2, h7, i1, i2, i3⟩ := dk_nat (m := 6) g3 (by decide)
  have i1 : F__law_take_v3 [dI h6, .int 6] = .ok (.int r2) (dI h7) := i1
  obtain ⟨E, h8, j1, tE, lE, j3⟩ : ∃ E h8, (sIf (MV.tB (e2 gEq (eCallW F__law_take_v3 0 (aCons (eC (.int 6)) aNil)) (eC (.int 0)))) (sSet 3 (eCallW F__law_bent 0 (aCons (eV 2) (aCons (eV 3) aNil)))) sSkip) [some (dI h6), some lg, some (dT l), some (dT w), some (dT C), some (.int b), some (.int n)] = .ok .nx [some (dI h8), some lg, some (dT l), some (dT E), some (dT C), some (.int b), some (.int n)] ∧ Tx E ∧ E.length ≤ w.length + 1 ∧ Dk h8 := by
    by_cases hr : r2 = 0
    · subst hr
      obtain ⟨C, h6, c1, c2, c3, c4⟩ := dbent_ok hl h0 hw (by omega) i3
      refine ⟨C, h6, ?_, c2, c3, c4⟩
      simp [i1, c1, List.all_map]
    · have hr' : ¬ (r2 : Int) = 0 := by omega
      exact ⟨w, h7, by simp [i1, hr, hr'], hw, by omega, i3⟩
  obtain ⟨t', p1, p2, p3, p4⟩ := orT_ne hl h0 tC
  obtain ⟨w', q1, q2, q3, q4⟩ := orT_ne hl h0 tE
  have p4 := p4 [some (dI h8), some lg, some (dT l), some (dT E), some (dT C), some (.int b), some (.int n)] 4 rfl rfl
  have q4 := q4 [some (dI h8), some lg, some (dT l), some (dT E), some (dT C), some (.int b), some (.int n)] 3 rfl rfl
  refine ⟨t', w', h8, [some lg, some (dT l), some (dT E), some (dT C), some (.int b), some (.int n)], ?_, p1, p2, by omega, q1, q2, by omega, j3⟩
  unfold pairT
  simp [z2, a1, a2, a3, b1, b2, b3, cutA_map, cf, c200, mn, sb, cA, g1, j1, p4, q4, List.all_map, -gMin2_i, -List.map_take, -List.map_drop, -r_sIf, -r_eOrT]
theorem pair_while {l w : List Str} {lg h : D} {x5 x6 : Option D} : ∀ (k : Nat) (t : List Str), Tx t → 0 < t.length → 200 - t.length ≤ k → t.length ≤ 20000 → ∃ t', Tx t' ∧ sWhile T__law_pair_l1 B__law_pair_l2 (k + 1) [some h, some lg, some (dT l), some (dT w), some (dT t), x5, x6] = .ok .nx [some h, some lg, some (dT l), some (dT w), some (dT t'), x5, x6]
  | 0, t, ht, h0, hk, hl => by
    refine ⟨t, ht, ?_⟩
    have h1 : ¬ (t.length : Int) < 200 := by omega
    have h2 : ¬ t.length < 200 := by omega
    simp [sWhile, T__law_pair_l1, h1]
  | k + 1, t, ht, h0, hk, hl => by
    by_cases h2 : t.length < 200
    · have h1 : (t.length : Int) < 200 := by omega
      obtain ⟨t', q1, q2⟩ := pair_while (l := l) (w := w) (lg := lg) (h := h) (x5 := x5) (x6 := x6) k (t ++ t) (ht.append ht) (by rw [List.length_append]; omega) (by rw [List.length_append]; omega) (by rw [List.length_append]; omega)
      refine ⟨t', q1, ?_⟩
      have L1 : t.length + t.length ≤ LIM := by show _ ≤ 100000; omega
      have hT : T__law_pair_l1 [some h, some lg, some (dT l), some (dT w), some (dT t), x5, x6] = .ok true [some h, some lg, some (dT l), some (dT w), some (dT t), x5, x6] := by simp [T__law_pair_l1, h1]
      have hB : B__law_pair_l2 [some h, some lg, some (dT l), some (dT w), some (dT t), x5, x6] = .ok .nx [some h, some lg, some (dT l), some (dT w), some (dT (t ++ t)), x5, x6] := by simp [B__law_pair_l2, L1, mapA, -List.map_append]
      rw [sWhile, bnd_of_ok hT]
      show bnd B__law_pair_l2 (sAft (sWhile T__law_pair_l1 B__law_pair_l2 (k + 1))) _ = _
      rw [bnd_of_ok hB]
      exact q2
    · refine ⟨t, ht, ?_⟩
      have h1 : ¬ (t.length : Int) < 200 := by omega
      simp [sWhile, T__law_pair_l1, h1]
theorem dpair_ok {h : List Int} (hh : Dk h) (lg : Bool) : ∃ t w h', F__law_pair [dI h, .bl lg] = .ok (.tup [dT t, dT w]) (dI h') ∧ Tx t ∧ t ≠ [] ∧ t.length ≤ 200 ∧ Tx w ∧ w ≠ [] ∧ w.length ≤ 51 ∧ Dk h' := by
  have z3 : (3 : Nat) ≤ PySem.sizeLine := by decide
  obtain ⟨l, h1, a1, a2, a3, a4, a5⟩ := dletters_ok hh
  obtain ⟨r1, h2, b1, b2, b3⟩ := dk_nat (m := 3) a5 (by decide)
  have b1 : F__law_take_v3 [dI h1, .int 3] = .ok (.int r1) (dI h2) := b1
  obtain ⟨m, m1, m2, m3⟩ : ∃ m : Nat, L2.atI [D.int 3, .int 6, .int 12] (r1 : Int) = some (.int (m : Int)) ∧ 0 < m ∧ m ≤ 12 := by
    rw [atI_eq]
    match r1, b2 with
    | 0, _ => exact ⟨3, rfl, by decide, by decide⟩
    | 1, _ => exact ⟨6, rfl, by decide, by decide⟩
    | 2, _ => exact ⟨12, rfl, by decide, by decide⟩
  obtain ⟨w, h3, c1, c2, c3, c4, c5⟩ := dword_ok a2 a3 m2 (by omega) b3
  obtain ⟨r2, h4, d1, d2, d3⟩ := dk_nat (m := 5) c5 (by decide)
  have d1 : F__law_take_v3 [dI h3, .int 5] = .ok (.int r2) (dI h4) := d1
  obtain ⟨t, h5, ee1, ee2, ee3, ee4, ee5⟩ := doverlaid_ok a2 a3 c2 c3 (by omega) (many := r2) (by omega) d3
  obtain ⟨t2, h6, f1, f2, f3⟩ : ∃ t2 h6, (sIf (tAnd2 (tTr (eV 1)) (tB (e2 gEq (eCallW F__law_take_v3 0 (aCons (eC (.int 16)) aNil)) (eC (.int 3))))) (sSeq (sSet 4 (eCallW F__law_overlaid_v2 0 (aCons (eV 2) (aCons (eV 3) (aCons (eC (.int 20)) aNil)))))
  (sWhile T__law_pair_l1 B__law_pair_l2 WFUEL)) sSkip) [some (dI h5), some (.bl lg), some (dT l), some (dT w), some (dT t), none, none] = .ok .nx [some (dI h6), some (.bl lg), some (dT l), some (dT w), some (dT t2), none, none] ∧ Tx t2 ∧ Dk h6 := by
    cases lg with
    | false => exact ⟨t, h5, by simp, ee2, ee5⟩
    | true =>
      obtain ⟨r3, h6, g1, g2, g3⟩ := dk_nat (m := 16) ee5 (by decide)
      have g1 : F__law_take_v3 [dI h5, .int 16] = .ok (.int r3) (dI h6) := g1
      by_cases hr : r3 = 3
      · subst hr
        obtain ⟨t2, h7, i1, i2, i3, i4, i5⟩ := doverlaid_ok a2 a3 c2 c3 (by omega) (many := 20) (by omega) g3
        have i1 : F__law_overlaid_v2 [dI h6, dT l, dT w, .int 20] = .ok (dT t2) (dI h7) := i1
        have bd : (20 + 1) * (w.length + 1) ≤ 21 * 101 := Nat.mul_le_mul (by omega) (by omega)
        obtain ⟨t3, j1, j2⟩ := pair_while (l := l) (w := w) (lg := .bl true) (h := dI h7) (x5 := none) (x6 := none) (WFUEL - 1) t2 i2 (by omega) (by show _ ≤ WFUEL - 1; unfold WFUEL; omega) (by omega)
        refine ⟨t3, h7, ?_, j1, i5⟩
        have wf : WFUEL - 1 + 1 = WFUEL := by unfold WFUEL; rfl
        rw [wf] at j2
        simp [g1, i1, j2, List.all_map]
      · have hr' : ¬ (r3 : Int) = 3 := by omega
        exact ⟨t, h6, by simp [g1, hr, hr'], ee2, g3⟩
  obtain ⟨t', w', h', e, k1, k2, k3, k4, k5, k6, k7, k8⟩ := pairT_ok a2 a3 c2 c3 (by omega) f2 (lg := .bl lg) f3 (x5 := none) (x6 := none)
  refine ⟨t', w', h', ?_, k2, k3, k4, k5, k6, by omega, k8⟩
  have hB : B__law_pair = sSeq (sSet 2 (eCallW F__law_letters_v3 0 aNil)) (sSeq (sSet 3 (eCallW F__law_word_v4 0 (aCons (eV 2) (aCons (e2 gIx (eN gLst (aCons (eC (.int 3)) (aCons (eC (.int 6)) (aCons (eC (.int 12)) aNil)))) (eCallW F__law_take_v3 0 (aCons (eC (.int 3)) aNil))) aNil)))) (sSeq (sSet 4 (eCallW F__law_overlaid_v2 0 (aCons (eV 2) (aCons (eV 3) (aCons (eCallW F__law_take_v3 0 (aCons (eC (.int 5)) aNil)) aNil))))) (sSeq (sIf (tAnd2 (tTr (eV 1)) (tB (e2 gEq (eCallW F__law_take_v3 0 (aCons (eC (.int 16)) aNil)) (eC (.int 3))))) (sSeq (sSet 4 (eCallW F__law_overlaid_v2 0 (aCons (eV 2) (aCons (eV 3) (aCons (eC (.int 20)) aNil)))))
  (sWhile T__law_pair_l1 B__law_pair_l2 WFUEL)) sSkip) pairT))) := rfl
  simp only [F__law_pair, r_runF, hB]
  simp [z3, a1, b1, m1, c1, d1, ee1, f1, k1, List.all_map, -r_sIf]
end Ov
namespace Ov
open PySem (Str)
open MV
def reach (w : Nat) : Nat → List Nat → Nat
  | r, [] => r
  | r, p :: L => if p ≤ r then reach w (p + w) L else reach w r L
abbrev Srt (l : List Nat) : Prop := l.Pairwise (· < ·)
theorem reach_max (w : Nat) : ∀ (L : List Nat) (r : Nat), Srt L → (∀ p ∈ L, r ≤ p + w) → L.foldl (fun r p => if p ≤ r then max r (p + w) else r) r = reach w r L
  | [], r, _, _ => rfl
  | p :: L, r, hs, hr => by
    rw [List.foldl_cons, reach]
    have hs := List.pairwise_cons.mp hs
    have h1 := hr p List.mem_cons_self
    by_cases h : p ≤ r
    · rw [if_pos h, if_pos h, Nat.max_eq_right h1, reach_max w L _ hs.2 fun q hq => by have := hs.1 q hq; omega]
    · rw [if_neg h, if_neg h, reach_max w L _ hs.2 fun q hq => hr q (List.mem_cons_of_mem _ hq)]
theorem reach_mem (w : Nat) : ∀ (L : List Nat) (r : Nat), reach w r L = r ∨ ∃ p ∈ L, reach w r L = p + w
  | [], r => .inl rfl
  | p :: L, r => by
    rw [reach]
    by_cases h : p ≤ r
    · rw [if_pos h]
      rcases reach_mem w L (p + w) with e | ⟨q, hq, e⟩
      · exact .inr ⟨p, List.mem_cons_self, e⟩
      · exact .inr ⟨q, List.mem_cons_of_mem _ hq, e⟩
    · rw [if_neg h]
      rcases reach_mem w L r with e | ⟨q, hq, e⟩
      · exact .inl e
      · exact .inr ⟨q, List.mem_cons_of_mem _ hq, e⟩
theorem srt_ext : ∀ {a b : List Nat}, Srt a → Srt b → (∀ x, x ∈ a ↔ x ∈ b) → a = b
  | [], [], _, _, _ => rfl
  | [], y :: b, _, _, h => absurd ((h y).mpr List.mem_cons_self) (by simp)
  | x :: a, [], _, _, h => absurd ((h x).mp List.mem_cons_self) (by simp)
  | x :: a, y :: b, ha, hb, h => by
    have ha' := List.pairwise_cons.mp ha
    have hb' := List.pairwise_cons.mp hb
    have e : x = y := by
      have h1 := (h x).mp List.mem_cons_self
      have h2 := (h y).mpr List.mem_cons_self
      rcases List.mem_cons.mp h1 with e | h1
      · exact e
      · rcases List.mem_cons.mp h2 with e | h2
        · exact e.symm
        · have := ha'.1 y h2; have := hb'.1 x h1; omega
    subst e
    rw [srt_ext ha'.2 hb'.2 fun z => ?_]
    constructor
    · intro hz
      have := ha'.1 z hz
      rcases List.mem_cons.mp ((h z).mp (List.mem_cons_of_mem _ hz)) with e | h1
      · omega
      · exact h1
    · intro hz
      have := hb'.1 z hz
      rcases List.mem_cons.mp ((h z).mpr (List.mem_cons_of_mem _ hz)) with e | h1
      · omega
      · exact h1
theorem srt_range (n : Nat) : Srt (List.range n) := List.pairwise_lt_range
theorem srt_range' (m n : Nat) : Srt (List.range' m n) := List.pairwise_lt_range'
theorem srt_filter {l : List Nat} (p : Nat → Bool) (h : Srt l) : Srt (l.filter p) := h.filter p
theorem srt_lies (t w : List Str) : Srt (lies t w) := srt_filter _ (srt_range _)
end Ov
namespace Ov
open PySem (Str)
open MV
end Ov
namespace Ov
open PySem (Str)
open MV
theorem need_text_val {t : List Str} (ht : Tx t) (h0 : t ≠ []) : F_need_text [dT t] = .ok .non (dT t) := by
  simp only [F_need_text, r_runF, B_need_text]
  simp [hsz0, gEq_nT ht.ok, h0]
theorem need_both_val {t w : List Str} (ht : Tx t) (hw : Tx w) (ht0 : t ≠ []) (h0 : w ≠ []) (hl : t.length ≤ 1000) (hl2 : w.length ≤ 1000) : F_need_both [dT t, dT w] = .ok .non (dT t) := by
  have hL : t.length + w.length ≤ LIM := by show _ ≤ 100000; omega
  have hn := need_signs_val (ht.append hw) (by rw [List.length_append]; exact hL)
  have hn : F_need_signs [.lst (t.map D.str ++ w.map D.str)] = .ok .non (dT (t ++ w)) := by rw [← List.map_append]; exact hn
  simp only [F_need_both, r_runF, B_need_both]
  simp [need_word_val hw h0, hL, hn, need_text_val ht ht0]
theorem max_val {r p : Nat} : gMax2 [.int (r : Int), .int (p : Int)] = some (.int ((max r p : Nat) : Int)) := by
  rw [gMax2_i]
  by_cases h : (p : Int) > (r : Int)
  · rw [if_pos h, Nat.max_eq_right (by omega)]
  · rw [if_neg h, Nat.max_eq_left (by omega)]
theorem first_bare_val {w n : Nat} {L : List Nat} (hs : Srt L) : F_first_bare [.int (w : Int), dN L, .int (n : Int)] = .ok (if reach w 0 L < n then .int (reach w 0 L : Nat) else .non) (.int w) := by
  obtain ⟨e', h2, x4, rfl⟩ := for_fold (tg := tgN 4) (b := B_first_bare_l1) (φ := fun k : Nat => D.int (k : Int)) (fun (r : Nat) e => ∃ x4, e = [some (.int (w : Int)), some (dN L), some (.int (n : Int)), some (.int (r : Int)), x4]) (fun r p => if p ≤ r then max r (p + w) else r) L 0 [some (.int (w : Int)), some (dN L), some (.int (n : Int)), some (.int 0), none] ⟨none, rfl⟩
    (fun r p e hp he => by
      obtain ⟨x4, rfl⟩ := he
      by_cases c : p ≤ r
      · refine ⟨_, [some (.int (w : Int)), some (dN L), some (.int (n : Int)), some (.int ((max r (p + w) : Nat) : Int)), some (.int p)], .nx, rfl, ?_, .inl rfl, some (.int p), by rw [if_pos c]⟩
        have hm : gMax2 [.int (r : Int), .int ((p : Int) + (w : Int))] = some (.int ((max r (p + w) : Nat) : Int)) := by
          rw [show ((p : Int) + (w : Int)) = ((p + w : Nat) : Int) by omega]; exact max_val
        simp [B_first_bare_l1, c, hm, -gMax2_i]
      · refine ⟨_, [some (.int (w : Int)), some (dN L), some (.int (n : Int)), some (.int r), some (.int p)], .nx, rfl, ?_, .inl rfl, some (.int p), by rw [if_neg c]⟩
        simp [B_first_bare_l1, c])
  rw [reach_max w L 0 hs fun p _ => Nat.zero_le _] at h2
  generalize reach w 0 L = rr at h2 ⊢
  simp only [F_first_bare, r_runF, B_first_bare]
  by_cases c : rr < n
  · simp [h2, c]
  · simp [h2, c]
theorem isN_int {i : Int} : gIsN (.int i) .non = some (.bl false) := rfl
theorem isN_non : gIsN .non .non = some (.bl true) := rfl
theorem covered_val {t w : List Str} (ht : Tx t) (hw : Tx w) (ht0 : t ≠ []) (h0 : w ≠ []) (hl : t.length ≤ 900) (hl2 : w.length ≤ 900) : F_covered [dT t, dT w] = .ok (if reach w.length 0 (lies t w) < t.length then .tup [.str (Str.ofString "bare"), .int (reach w.length 0 (lies t w) : Nat)] else .tup [.str (Str.ofString "covers"), dN (lies t w)]) (dT t) := by
  have hsz : (2 : Nat) ≤ PySem.sizeLine := by decide
  have hb := first_bare_val (w := w.length) (n := t.length) (srt_lies t w)
  simp only [F_covered, r_runF, B_covered]
  by_cases c : reach w.length 0 (lies t w) < t.length
  · rw [if_pos c] at hb ⊢
    simp [need_both_val ht hw ht0 h0 (by omega) (by omega), lies_at_val ht hw h0 (by omega) (by omega), hb, isN_int, hsz]
  · rw [if_neg c] at hb ⊢
    simp [need_both_val ht hw ht0 h0 (by omega) (by omega), lies_at_val ht hw h0 (by omega) (by omega), hb, isN_non, hsz]
def cov (t : List Str) (s : Nat) : Bool := decide (reach s 0 (lies t (t.take s)) = t.length)
def covs (t : List Str) : List Nat := (List.range' 1 t.length).filter (cov t)
theorem reach_le {t w : List Str} : reach w.length 0 (lies t w) ≤ t.length := by
  rcases reach_mem w.length (lies t w) 0 with e | ⟨p, hp, e⟩
  · rw [e]; exact Nat.zero_le _
  · rw [e]; exact lies_lt hp
theorem lies_self (t : List Str) : lies t t = [0] := by
  unfold lies
  rw [show t.length + 1 - t.length = 1 by omega]
  simp
theorem cov_self (t : List Str) : cov t t.length = true := by
  unfold cov
  rw [List.take_length, lies_self]
  simp [reach]
theorem cov_bord {t : List Str} {s : Nat} (hs : s < t.length) (h : cov t s = true) : s ∈ bord t := by
  have h := of_decide_eq_true h
  have hl : (t.take s).length = s := by rw [List.length_take]; omega
  rcases reach_mem s (lies t (t.take s)) 0 with e | ⟨p, hp, e⟩
  · rw [e] at h; omega
  · rw [e] at h
    unfold lies at hp
    rw [List.mem_filter] at hp
    have hp := of_decide_eq_true hp.2
    rw [hl] at hp
    unfold bord
    rw [List.mem_filter, List.mem_range]
    refine ⟨hs, decide_eq_true ?_⟩
    rw [show t.length - s = p by omega, ← hp, List.take_of_length_le (by rw [List.length_drop]; omega)]
theorem covs_eq {t : List Str} (h0 : 0 < t.length) : ((bord t).filter fun b => decide (0 < b) && cov t b) ++ [t.length] = covs t := by
  refine srt_ext ?_ (srt_filter _ (srt_range' _ _)) fun s => ?_
  · rw [Srt, List.pairwise_append]
    refine ⟨srt_filter _ (srt_filter _ (srt_range _)), List.pairwise_singleton _ _, fun a ha b hb => ?_⟩
    rw [List.mem_singleton.mp hb]
    exact bord_lt (List.mem_filter.mp ha).1
  · unfold covs
    rw [List.mem_append, List.mem_filter, List.mem_singleton, List.mem_filter, List.mem_range'_1]
    constructor
    · rintro (⟨h1, h2⟩ | rfl)
      · have := bord_lt h1
        simp at h2
        exact ⟨by omega, h2.2⟩
      · exact ⟨by omega, cov_self t⟩
    · intro ⟨h1, h2⟩
      by_cases c : s = t.length
      · exact .inr c
      · exact .inl ⟨cov_bord (by omega) h2, by simp [h2]; omega⟩
theorem ne_cb : ¬ Str.ofString "bare" = Str.ofString "covers" := by decide +kernel
theorem all_covers_val {t : List Str} (ht : Tx t) (h0 : t ≠ []) (hl : t.length ≤ 900) : F_all_covers [dT t] = .ok (dN (covs t)) (dT t) := by
  have hp : 0 < t.length := List.length_pos_iff.mpr h0
  have hb := bord_len t
  have h1 := lc_nat (is := [2]) (tg := tgN 2) (t := tAnd2 (tB (e2 gGt (eV 2) (eC (.int 0)))) (tB (e2 gEq (e2 gIx (eCall F_covered (aCons (eV 0) (aCons (eSl (eV 0) oNone (oSome (eV 2))) aNil))) (eC (.int 0))) (eC (.str (Str.ofString "covers")))))) (fe := eV 2) (e := [some (dT t), none, none]) (fun b => decide (0 < b) && cov t b) (fun k => .int (k : Int)) (bord t) (by show _ ≤ 100000; omega)
    (fun b hk => by
      have hlt := bord_lt hk
      refine ⟨_, [some (dT t), none, some (.int b)], rfl, ?_, fun _ => ⟨_, rfl, rfl⟩, fun _ => rfl⟩
      by_cases c0 : 0 < b
      · have hlb : (t.take b).length = b := by rw [List.length_take]; omega
        have hc := covered_val ht (ht.take b) h0 (fun e => by rw [e] at hlb; simp at hlb; omega) hl (by omega)
        have hr := reach_le (t := t) (w := t.take b)
        rw [hlb] at hc hr
        unfold cov
        by_cases c : reach b 0 (lies t (t.take b)) < t.length
        · rw [if_pos c] at hc
          have c' : ¬ reach b 0 (lies t (t.take b)) = t.length := by omega
          simp [c0, cutA_map, cutA_to, hc, ne_cb, c', -List.map_take]
        · rw [if_neg c] at hc
          have c' : reach b 0 (lies t (t.take b)) = t.length := by omega
          simp [c0, cutA_map, cutA_to, hc, c', -List.map_take]
      · simp [c0])
  have hsz : (1 : Nat) ≤ PySem.sizeLine := by decide
  have hfl := List.length_filter_le (fun b => decide (0 < b) && cov t b) (bord t)
  have e1 : ((bord t).filter fun b => decide (0 < b) && cov t b).map (fun k : Nat => D.int (k : Int)) ++ [D.int (t.length : Int)] = (covs t).map fun k : Nat => D.int (k : Int) := by
    rw [← covs_eq hp, List.map_append]; rfl
  generalize (bord t).filter (fun b => decide (0 < b) && cov t b) = Fl at h1 e1 hfl
  have hL : Fl.length + 1 ≤ LIM := by show _ ≤ 100000; omega
  simp only [F_all_covers, r_runF, B_all_covers]
  simp [need_signs_val ht (show t.length ≤ 100000 by omega), need_text_val ht h0, borders_val ht (by omega), h1, hsz, hL, e1]
end Ov
namespace Ov
open PySem (Str PyData)
open MV
def topL (p : Nat → Bool) : Nat → Nat
  | 0 => 0
  | n + 1 => if p (n + 1) then n + 1 else topL p n
def haB (t w : List Str) (l : Nat) : Bool := decide (w.drop (w.length - l) = t.take l)
def hbB (t w : List Str) (l : Nat) : Bool := decide (w.take l = t.drop (t.length - l))
def ha (t w : List Str) : Nat := topL (haB t w) (min t.length (w.length - 1))
def hb (t w : List Str) : Nat := topL (hbB t w) (min t.length (w.length - 1))
def cam (w b : Nat) (L : List Nat) : Nat := L.foldl (fun r p => if p ≤ r then max r (p + w) else r) b
def rbV (t w : List Str) : Bool := decide (t.length - hb t w ≤ cam w.length 0 (lies t w))
def raV (t w : List Str) : Bool := decide (t.length ≤ cam w.length (ha t w) (lies t w))
def cbV (t w : List Str) : Bool := !decide (lies w t = []) || decide (t.length - hb t w ≤ cam w.length (ha t w) (lies t w))
section
variable {t w : List Str}
end
def pc (t : List Str) (l p : Nat) : List Str := (t.drop p).take l
def fstAt (t : List Str) (l p : Nat) : Bool := !((List.range p).any fun k => decide (pc t l k = pc t l p))
theorem fstAt_iff {t : List Str} {l p : Nat} : fstAt t l p = true ↔ ∀ k, k < p → pc t l k ≠ pc t l p := by
  unfold fstAt
  rw [Bool.not_eq_true', List.any_eq_false]
  simp
abbrev dP (l : List (Nat × Nat)) : D := .lst (l.map fun x => D.tup [.int (x.1 : Int), .int (x.2 : Int)])
def metK (s : List Str) : List L2.Key := s.map Sum.inr
theorem keysD_strs (s : List Str) : keysD (s.map D.str) = some (metK s) := by
  induction s with
  | nil => rfl
  | cons a r ih => rw [List.map_cons, keysD, ih]; rfl
theorem metK_inj {a b : List Str} : metK a = metK b ↔ a = b := ⟨fun h => (List.map_inj_right (fun x y h => by cases h; rfl)).mp h, fun h => by rw [h]⟩
theorem tx_pc {t : List Str} (ht : Tx t) (l p : Nat) : Tx (pc t l p) := (ht.drop p).take l
theorem pc_len {t : List Str} {l p : Nat} (h : p + l ≤ t.length) : (pc t l p).length = l := by unfold pc; rw [List.length_take, List.length_drop]; omega
end Ov
namespace Ov
open PySem (Str PyData)
open MV
def S2 (k : Nat) : List Nat := if k = 0 then [0] else [0, k]
theorem depth_strs : ∀ a : List Str, PyData.depthAll (a.map PyData.str) = 0
  | [] => by simp [PyData.depthAll]
  | x :: a => by rw [List.map_cons, PyData.depthAll, depth_strs a]; simp [PyData.depth]
mutual
theorem eqv_eq : ∀ (p q : PyData), PySem.W.alike p q = true → PyData.eqv p q = true → p = q
  | .none, q, h, e => by cases q <;> first | rfl | (simp [PySem.W.alike] at h)
  | .bool a, q, h, e => by cases q <;> first | (exfalso; simp [PySem.W.alike] at h; done) | (simp [PyData.eqv] at e; rw [e])
  | .int a, q, h, e => by cases q <;> first | (exfalso; simp [PySem.W.alike] at h; done) | (simp [PyData.eqv] at e; rw [e])
  | .str a, q, h, e => by cases q <;> first | (exfalso; simp [PySem.W.alike] at h; done) | (simp [PyData.eqv] at e; rw [e])
  | .list xs, q, h, e => by
    cases q with
    | list ys =>
      rw [PySem.W.alike] at h
      rw [PyData.eqv] at e
      rw [eqvAll_eq xs ys h e]
    | _ => simp [PySem.W.alike] at h
  | .tuple xs, q, h, e => by
    cases q with
    | tuple ys =>
      rw [PySem.W.alike] at h
      rw [PyData.eqv] at e
      rw [eqvAll_eq xs ys h e]
    | _ => simp [PySem.W.alike] at h
  | .dict _, q, h, e => by cases q <;> simp [PySem.W.alike] at h
theorem eqvAll_eq : ∀ (p q : List PyData), PySem.W.alikeAll p q = true → PyData.eqvAll p q = true → p = q
  | [], [], _, _ => rfl
  | [], _ :: _, _, e => by simp [PyData.eqvAll] at e
  | _ :: _, [], _, e => by simp [PyData.eqvAll] at e
  | x :: xs, y :: ys, h, e => by
    rw [PySem.W.alikeAll, Bool.and_eq_true] at h
    rw [PyData.eqvAll, Bool.and_eq_true] at e
    rw [eqv_eq x y h.1 e.1, eqvAll_eq xs ys h.2 e.2]
end
theorem lay_shaped {a : D} {p : PyData} (l : Lay 64 a) (h : a.toP = some p) : PySem.SeqAt.shaped p = true := by
  obtain ⟨q, h1, h2, h3⟩ := l
  rw [h] at h1
  cases h1
  unfold PySem.SeqAt.shaped
  rw [h2, decide_eq_true h3]
  rfl
theorem gEq_cases {a b : D} (la : Lay 64 a) (lb : Lay 64 b) (al : PySem.W.alike a.P b.P = true) : ∃ k : Bool, gEq a b = some (.bl k) ∧ gNe a b = some (.bl (!k)) ∧ (k = true ↔ a = b) := by
  obtain ⟨p, h1, _⟩ := id la
  obtain ⟨q, h2, _⟩ := id lb
  rw [P_of h1, P_of h2] at al
  have dq : ∃ k, deq a b = some k ∧ (k = true ↔ a = b) := by
    unfold deq
    split
    · rename_i i j
      exact ⟨_, rfl, by simp⟩
    · rename_i x y
      exact ⟨_, rfl, by simp⟩
    · rw [h1, h2]
      simp only [lay_shaped la h1, lay_shaped lb h2, Bool.and_self, if_true]
      refine ⟨_, rfl, fun e => ?_, fun e => ?_⟩
      · have := eqv_eq p q al e
        subst this
        exact toP_inj h1 h2
      · subst e
        rw [h1] at h2
        cases h2
        exact PySem.W.eqv_refl_alike p al
  obtain ⟨k, k1, k2⟩ := dq
  refine ⟨k, ?_, ?_, k2⟩
  · unfold gEq; rw [k1]; rfl
  · unfold gNe; rw [k1]; rfl
section
variable {t w : List Str}
theorem for_step {tg : D → M Unit} {b : M Fl} {d : D} {r : List D} {e e1 e2 : PEnv} (h1 : tg d e = .ok () e1) (h2 : b e1 = .ok .nx e2) : sForL tg b (d :: r) e = sForL tg b r e2 := by
  rw [sForL, bnd_of_ok h1, bnd_of_ok h2]; rfl
end
end Ov
namespace Ov
open PySem (Str)
open MV
def Oc (t : List Str) (s p : Nat) : Prop := ∀ j, j < s → t[p + j]? = t[j]?
instance (t : List Str) (s p : Nat) : Decidable (Oc t s p) := Nat.decidableBallLT s fun j _ => t[p + j]? = t[j]?
def Cvr (t : List Str) (s e : Nat) : Prop := 1 ≤ s ∧ s ≤ e ∧ e ≤ t.length ∧ ∀ i, i < e → ∃ p, p ≤ i ∧ i < p + s ∧ p + s ≤ e ∧ Oc t s p
def rch (t : List Str) (s e : Nat) : Nat := reach s 0 ((lies t (t.take s)).filter fun p => decide (p + s ≤ e))
theorem Cvr.suffix {t : List Str} {s e : Nat} (h : Cvr t s e) : Oc t s (e - s) := by
  obtain ⟨h1, h2, h3, h4⟩ := h
  obtain ⟨p, a1, a2, a3, a4⟩ := h4 (e - 1) (by omega)
  rw [show e - s = p by omega]; exact a4
theorem Cvr.trans {t : List Str} {s g e : Nat} (h : Cvr t s g) (h2 : Cvr t g e) : Cvr t s e := by
  obtain ⟨a1, a2, a3, a4⟩ := h
  obtain ⟨b1, b2, b3, b4⟩ := h2
  refine ⟨a1, by omega, b3, fun i hi => ?_⟩
  obtain ⟨p, c1, c2, c3, c4⟩ := b4 i hi
  obtain ⟨q, d1, d2, d3, d4⟩ := a4 (i - p) (by omega)
  refine ⟨p + q, by omega, by omega, by omega, fun j hj => ?_⟩
  rw [Nat.add_assoc, c4 (q + j) (by omega), d4 j hj]
theorem Cvr.self {t : List Str} {e : Nat} (h1 : 1 ≤ e) (h2 : e ≤ t.length) : Cvr t e e := ⟨h1, Nat.le_refl _, h2, fun i hi => ⟨0, by omega, by omega, by omega, fun j hj => by rw [Nat.zero_add]⟩⟩
theorem Cvr.isB {t : List Str} {s e : Nat} (h : Cvr t s e) (hl : s < e) : isB t e s := by
  have hs := h.suffix
  exact ⟨hl, h.2.2.1, fun j hj => (hs j hj).symm⟩
end Ov
namespace Ov
open PySem (Str PyData)
open MV
section
variable (t w : List Str)
end
section
variable {t w : List Str}
theorem mem_lies_iff {p : Nat} : p ∈ lies t w ↔ p + w.length ≤ t.length ∧ (t.drop p).take w.length = w := by
  unfold lies
  rw [List.mem_filter, List.mem_range, decide_eq_true_iff]
  constructor
  · exact fun h => ⟨by omega, h.2⟩
  · exact fun h => ⟨by omega, h.2⟩
end
end Ov
namespace Ov
open PySem (Str PyData)
open MV
section
variable {t w : List Str}
end
end Ov
namespace Ov
open PySem (Str PyData)
open MV
section
variable {t w : List Str}
end
end Ov
namespace Ov
open PySem (Str PyData)
open MV
abbrev xs21 : List Str := [(Str.ofString "NoWord"), (Str.ofString "NoSign"), (Str.ofString "NoText"), (Str.ofString "NoCover"), (Str.ofString "TooMany")]
inductive Nm : Str → Str → Prop
  | word : Nm (Str.ofString "NoWord") (Str.ofString "word")
  | sign : Nm (Str.ofString "NoSign") (Str.ofString "sign")
  | text : Nm (Str.ofString "NoText") (Str.ofString "text")
  | cover : Nm (Str.ofString "NoCover") (Str.ofString "cover")
  | many : Nm (Str.ofString "TooMany") (Str.ofString "many")
theorem Nm.mem {c n : Str} (h : Nm c n) : c ∈ xs21 := by
  cases h <;> simp [xs21]
theorem Gd.filter {t : List Str} (h : Gd t) (p : Str → Bool) : Gd (t.filter p) := fun x hx => h x (List.mem_filter.mp hx).1
theorem Gd.take {t : List Str} (h : Gd t) (k : Nat) : Gd (t.take k) := fun x hx => h x (List.mem_of_mem_take hx)
theorem Gd.drop {t : List Str} (h : Gd t) (k : Nat) : Gd (t.drop k) := fun x hx => h x (List.mem_of_mem_drop hx)
end Ov
namespace Ov
open PySem (Str PyData)
open MV
theorem cell_at_ok (ns : List Int) (k : Nat) : ∃ x io, F__law_cell_at [.lst (ns.map .int), .int (k : Int)] = .ok (.int x) io := by
  by_cases q : k < ns.length
  · have q' : (k : Int) < (ns.length : Int) := by omega
    have h1 : L2.atI (ns.map D.int) (k : Int) = some (.int ns[k]) := by rw [atI_eq, List.getElem?_map, List.getElem?_eq_getElem q]; rfl
    refine ⟨ns[k], .lst (ns.map .int), ?_⟩
    simp only [F__law_cell_at, r_runF, B__law_cell_at]
    simp [q, q', h1]
  · have q' : ¬ (k : Int) < (ns.length : Int) := by omega
    refine ⟨0, .lst (ns.map .int), ?_⟩
    simp only [F__law_cell_at, r_runF, B__law_cell_at]
    simp [q, q']
theorem cells_seq (ns : List Int) (hl : ns.length ≤ 63) (m : Nat) : ∃ cs : List Int, ∀ (xs : List (Option D)), (iL (e2 gAdd (eSlQ 0 oNone (oSome (eC (.int (m : Int))))) (eN gLst (aCons (eCallQ F__law_cell_at 0 (aCons (eC (.int 0)) aNil)) aNil)))) (some (.lst (ns.map .int)) :: xs) = .ok (cs.map .int) (some (.lst (ns.map .int)) :: xs) := by
  obtain ⟨x, io, h⟩ := cell_at_ok ns 0
  have h : F__law_cell_at [.lst (ns.map .int), .int 0] = .ok (.int x) io := h
  have z1 : (1 : Nat) ≤ PySem.sizeLine := by decide
  have hc := cutA_len ns none (some (m : Int))
  have L1 : (cutA ns none (some (m : Int))).length + 1 ≤ LIM := by show _ ≤ 100000; omega
  refine ⟨cutA ns none (some (m : Int)) ++ [x], fun xs => ?_⟩
  simp [cutA_map, List.all_map, h, z1, L1]
end Ov
namespace Ov
open PySem (Str PyData)
open MV
end Ov
namespace Ov
open PySem (Str)
open MV
def PL (P : Nat → Nat → Prop) (L : List Nat) (n : Nat) : Prop := L.length = n ∧ ∀ m, m < n → ∃ g, L[m]? = some g ∧ P (m + 1) g
theorem PL.snoc {P : Nat → Nat → Prop} {L : List Nat} {n g : Nat} (h : PL P L n) (hg : P (n + 1) g) : PL P (L ++ [g]) (n + 1) := by
  refine ⟨by rw [List.length_append, h.1]; rfl, fun m hm => ?_⟩
  by_cases q : m = n
  · subst q; exact ⟨g, by rw [List.getElem?_append_right (by rw [h.1]; omega), h.1]; simp, hg⟩
  · obtain ⟨g, g1, g2⟩ := h.2 m (by omega)
    exact ⟨g, by rw [List.getElem?_append_left (by rw [h.1]; omega)]; exact g1, g2⟩
theorem PL.at {P : Nat → Nat → Prop} {L : List Nat} {n m : Nat} (h : PL P L n) (hm : m < n) : ∃ g : Nat, L2.atI (L.map fun k : Nat => D.int (k : Int)) (m : Int) = some (.int (g : Nat)) ∧ P (m + 1) g := by
  obtain ⟨g, g1, g2⟩ := h.2 m hm
  have hgl : m < L.length := by rw [h.1]; exact hm
  refine ⟨g, ?_, g2⟩
  rw [dN_at hgl]
  rw [List.getElem?_eq_getElem hgl] at g1; rw [Option.some.inj g1]
def rho (t : List Str) (s e : Nat) : Nat := if s ≤ e then (if s = 0 then 0 else rch t s e) else s
end Ov
namespace Ov
open PySem (Str)
open MV
def RL (t : List Str) (e k : Nat) (Rl : List Nat) : Prop := Rl.length = t.length + 1 ∧ ∀ s, s ≤ t.length → ∃ x, Rl[s]? = some x ∧ (isB t (e + 1) s ∧ k < s → x = rho t s (e + 1)) ∧ (¬ (isB t (e + 1) s ∧ k < s) → x = rho t s e)
theorem RL.step {t : List Str} {e k k' y : Nat} {Rl : List Nat} (h : RL t e k Rl) (hk : isB t (e + 1) k) (hg : isG t k k') (hy : y = rho t k (e + 1)) : RL t e k' (Rl.set k y) := by
  refine ⟨by rw [List.length_set]; exact h.1, fun s hs => ?_⟩
  have hkl : k < Rl.length := by rw [h.1]; have := hk.1; have := hk.2.1; omega
  have hlt := hg.1.1
  by_cases c : s = k
  · subst c
    refine ⟨y, by rw [List.getElem?_set_self hkl], fun _ => hy, fun q => absurd ⟨hk, hlt⟩ q⟩
  · obtain ⟨x, x1, x2, x3⟩ := h.2 s hs
    refine ⟨x, by rw [List.getElem?_set_ne (Ne.symm c)]; exact x1, fun q => ?_, fun q => ?_⟩
    · refine x2 ⟨q.1, ?_⟩
      by_cases d : s < k
      · have := hg.2 s (isB_down hk q.1 d); omega
      · omega
    · exact x3 fun z => q ⟨z.1, by omega⟩
end Ov
namespace Ov
open PySem (Str PyData)
open MV
end Ov
namespace Ov
open PySem (Str PyData)
open MV
section
variable {t w : List Str}
def b3 (t w : List Str) : D := .lst [.bl (rbV t w), .bl (raV t w), .bl (cbV t w)]
end
end Ov
namespace Ov
open PySem (Str)
open MV
def Ql (t : List Str) (s e x : Nat) : Prop := (x = 0 ∧ ∀ s', s' ≤ s → ¬ Cvr t s' e) ∨ (x ≤ s ∧ Cvr t x e ∧ ∀ s', Cvr t s' e → x ≤ s')
def Qg (t : List Str) (s e x : Nat) : Prop := (x = 0 ∨ (x < e ∧ Cvr t x e)) ∧ ∀ s', s' ≤ s → s' < e → Cvr t s' e → s' ≤ x
section
variable {t : List Str} {s e x : Nat}
theorem Ql.upd (hs : 1 ≤ s) (hc : Cvr t s e) (h : Ql t (s - 1) e x ∨ Ql t s e x) : Ql t s e (if x = 0 then s else x) := by
  have nz : ∀ {u : Nat}, Cvr t u e → u ≠ 0 := fun h => by have := h.1; omega
  by_cases c : x = 0
  · rw [if_pos c]
    refine .inr ⟨Nat.le_refl _, hc, fun s' h' => ?_⟩
    rcases h with (h | h) | (h | h)
    · by_cases d : s ≤ s'
      · exact d
      · exact absurd h' (h.2 s' (by omega))
    · exact absurd c (nz h.2.1)
    · exact absurd hc (h.2 s (Nat.le_refl _))
    · exact absurd c (nz h.2.1)
  · rw [if_neg c]
    rcases h with (h | h) | (h | h)
    · exact absurd h.1 c
    · exact .inr ⟨by omega, h.2⟩
    · exact absurd h.1 c
    · exact .inr h
theorem Qg.upd (hs : 1 ≤ s) (hc : Cvr t s e) (h : Qg t (s - 1) e x ∨ Qg t s e x) : Qg t s e (if s < e then s else x) := by
  by_cases c : s < e
  · rw [if_pos c]
    exact ⟨.inr ⟨c, hc⟩, fun s' h1 _ _ => h1⟩
  · rw [if_neg c]
    have := hc.2.1
    rcases h with h | h
    · exact ⟨h.1, fun s' h1 h2 h3 => h.2 s' (by omega) h2 h3⟩
    · exact h
end
def Mid (Q : Nat → Nat → Nat → Prop) (s : Nat) (E : List Nat) (A : List Nat) (n : Nat) : Prop := A.length = n ∧ ∀ m, m < n → ∃ x, A[m]? = some x ∧ (Q (s - 1) (m + 1) x ∨ Q s (m + 1) x) ∧ (m + 1 ∈ E → Q s (m + 1) x)
theorem Mid.set {Q : Nat → Nat → Nat → Prop} {s m n : Nat} {E A : List Nat} (h : Mid Q s E A n) (hm : m < n) {y : Nat} (hy : Q s (m + 1) y) : Mid Q s (E ++ [m + 1]) (A.set m y) n := by
  refine ⟨by rw [List.length_set]; exact h.1, fun k hk => ?_⟩
  by_cases c : m = k
  · subst c
    exact ⟨y, by rw [List.getElem?_set_self (by rw [h.1]; exact hm)], .inr hy, fun _ => hy⟩
  · obtain ⟨x, x1, x2, x3⟩ := h.2 k hk
    refine ⟨x, by rw [List.getElem?_set_ne c]; exact x1, x2, fun z => ?_⟩
    rcases List.mem_append.mp z with z | z
    · exact x3 z
    · exact absurd (List.mem_singleton.mp z) (by omega)
end Ov
namespace Ov
open PySem (Str PyData)
open MV
end Ov
namespace Ov
open PySem (Str)
open MV
def ov (w : Nat) (L : List Nat) (i : Nat) : Bool := L.any fun p => decide (p ≤ i) && decide (i < p + w)
end Ov
namespace Ov
open PySem (Str PyData)
open MV
theorem ok_bare : okS (Str.ofString "bare") := by unfold okS; decide +kernel
end Ov
namespace Ov
open PySem (Str)
open MV
section
variable {f g : M D} {lo hi : M (Option Int)} {e : PEnv} {n m : Nat}
end
def Rows (rows : List (List Int)) (k : Nat) : Prop := rows.length = k ∧ ∀ r ∈ rows, r.length ≤ 2000
theorem Rows.snoc {rows : List (List Int)} {k : Nat} (h : Rows rows k) {r : List Int} (hr : r.length ≤ 2000) : Rows (rows ++ [r]) (k + 1) := by
  refine ⟨by rw [List.length_append, h.1]; rfl, fun x hx => ?_⟩
  rcases List.mem_append.mp hx with hx | hx
  · exact h.2 x hx
  · rw [List.mem_singleton.mp hx]; exact hr
end Ov
namespace Ov
open PySem (Str PyData)
open MV
def kvsF (n : Nat) : List Str → List (L2.Key × D)
  | [] => []
  | x :: r => (Sum.inl (n : Int), .str x) :: kvsF (n + 1) r
abbrev dS (s : List Str) : D := .dic (kvsF 0 s)
def ovl (s : List Str) (p : Nat) (w : List Str) : List Str := s.take p ++ w ++ s.drop (p + w.length)
def shw (w : List Str) (ch : List Nat) : List Str := ch.foldl (fun s p => ovl s p w) []
def Rising (m : Nat) : Nat → List Nat → Prop
  | _, [] => True
  | L, p :: r => p ≤ L ∧ Rising m (max L (p + m)) r
theorem Rising.snoc {m : Nat} : ∀ {ch : List Nat} {L p : Nat}, Rising m L (ch ++ [p]) → Rising m L ch ∧ p ≤ ch.foldl (fun L p => max L (p + m)) L
  | [], L, p, h => ⟨trivial, h.1⟩
  | q :: r, L, p, h => by
    have h : q ≤ L ∧ Rising m (max L (q + m)) (r ++ [p]) := h
    obtain ⟨h1, h2⟩ := Rising.snoc h.2
    exact ⟨⟨h.1, h1⟩, h2⟩
theorem Rising.take {m : Nat} : ∀ {ch : List Nat} {L : Nat} (n : Nat), Rising m L ch → Rising m L (ch.take n)
  | _, _, 0, _ => trivial
  | [], _, n + 1, _ => trivial
  | p :: r, L, n + 1, h => ⟨h.1, Rising.take n h.2⟩
end Ov
namespace Ov
open PySem (Str PyData)
open MV
def mism (a b : List Str) : Nat := ((a.zip b).filter fun p => !decide (p.1 = p.2)).length
theorem mism_nil (b : List Str) : mism [] b = 0 := rfl
theorem mism_cons (x y : Str) (a b : List Str) : mism (x :: a) (y :: b) = (if x = y then 0 else 1) + mism a b := by
  unfold mism
  rw [List.zip_cons_cons, List.filter_cons]
  by_cases h : x = y
  · simp [h]
  · simp [h]; omega
def wrV (t w : List Str) (p s : Nat) : Nat := mism (t.drop (p + s)) (w.drop s)
def Stp' (w : List Str) : Nat → List Nat → Prop
  | _, [] => True
  | a, b :: r => (∃ d ∈ wayson w, b = a + d) ∧ Stp' w b r
def lastN (a : Nat) : List Nat → Nat
  | [] => a
  | b :: r => lastN b r
theorem wayson_shift {w : List Str} {d : Nat} (h : d ∈ wayson w) : w.drop d = w.take (w.length - d) := by
  unfold wayson at h
  simpa using (List.mem_filter.mp h).2
theorem ovl_next {S w : List Str} {a d : Nat} (hS : S.length = a + w.length) (hd : S.drop a = w) (h : d ∈ wayson w) : ovl S (a + d) w = S ++ w.drop (w.length - d) ∧ (ovl S (a + d) w).drop (a + d) = w ∧ (ovl S (a + d) w).length = a + d + w.length := by
  obtain ⟨h1, h2⟩ := wayson_le h
  have e0 : S.drop (a + d + w.length) = [] := List.drop_eq_nil_of_le (by omega)
  have e1 : S.drop (a + d) = w.take (w.length - d) := by rw [← List.drop_drop, hd, wayson_shift h]
  have e2 : ovl S (a + d) w = S.take (a + d) ++ w := by unfold ovl; rw [e0, List.append_nil]
  refine ⟨?_, ?_, ?_⟩
  · rw [e2]
    conv => rhs; rw [← List.take_append_drop (a + d) S, e1, List.append_assoc, List.take_append_drop]
  · rw [e2, List.drop_append_of_le_length (by rw [List.length_take]; omega), List.drop_eq_nil_of_le (by rw [List.length_take]; omega), List.nil_append]
  · rw [e2, List.length_append, List.length_take]; omega
def costS (t w : List Str) : Nat → List Nat → Nat
  | _, [] => 0
  | a, b :: r => wrV t w b (w.length + a - b) + costS t w b r
theorem shw_zero {w : List Str} (r : List Nat) : shw w (0 :: r) = r.foldl (fun s p => ovl s p w) w := by
  unfold shw
  rw [List.foldl_cons]
  congr 1
  unfold ovl
  simp
def stepsI (ch : List Int) : List (Int × Int) := ch.zip (ch.drop 1)
def inW (w : List Str) (d : Int) : Bool := (wayson w).any fun k => decide ((k : Int) = d)
def offS (w : List Str) (ch : List Int) : List (Int × Int) := (stepsI ch).filter fun p => !inW w (p.2 - p.1)
end Ov
namespace Ov
open PySem (Str PyData)
open MV
def okC (t w : List Str) (ch : List Int) : Prop := ch.head? = some 0 ∧ ch.getLast? = some ((t.length : Int) - (w.length : Int)) ∧ offS w ch = []
instance (t w : List Str) (ch : List Int) : Decidable (okC t w ch) := by unfold okC; exact inferInstance
end Ov
namespace Ov
open PySem (Str PyData)
open MV
end Ov
namespace Ov
open PySem (Str PyData)
open MV
end Ov
namespace Ov
open PySem (Str PyData)
open MV
end Ov
namespace Ov
open PySem (Str PyData)
open MV
def pm (t w : List Str) (p k : Nat) : Nat := mism (t.drop p) (w.take k)
end Ov
namespace Ov
open PySem (Str PyData)
open MV
abbrev T3 := Nat × Nat × Nat
abbrev dB3 (x : T3) : D := .tup [.int (x.1 : Int), .int (x.2.1 : Int), .int (x.2.2 : Int)]
def mn3 : List T3 → Option T3
  | [] => none
  | x :: xs => some (xs.foldl (fun a y => if ltD (dB3 y) (dB3 a) then y else a) x)
def way (t w : List Str) (E p : Nat) (L : List (Option T3)) (far : Nat) : Option T3 :=
  if p + far ≤ E then (match L[far - 1]? with
    | some (some x) => some (x.1 + wrV t w (p + far) (w.length - far), x.2.1 + 1, p + far)
    | _ => none) else none
def BT (t w : List Str) (E : Nat) : Nat → List (Option T3)
  | 0 => [some (0, 0, E)]
  | k + 1 => mn3 ((wayson w).filterMap (way t w E (E - k - 1) (BT t w E k))) :: BT t w E k
section
variable {t w : List Str}
end
end Ov
namespace Ov
open PySem (Str PyData)
open MV
section
variable {t w : List Str}
def bst (t w : List Str) (E p : Nat) : Option T3 := ((BT t w E (E - p)).head?).getD none
def ways (t w : List Str) (E p : Nat) : List T3 := (wayson w).filterMap fun far => if p + far ≤ E then (bst t w E (p + far)).map fun x => (x.1 + wrV t w (p + far) (w.length - far), x.2.1 + 1, p + far) else none
end
end Ov
namespace Ov
open PySem (Str PyData)
open MV
def bls (f : Bool → Bool) (R : List Bool) : List D := R.map fun b => D.bl (f b)
@[simp] theorem bls_len (f : Bool → Bool) (R : List Bool) : (bls f R).length = R.length := by unfold bls; simp
end Ov
namespace Ov
open PySem (Str PyData)
open MV
end Ov
namespace Ov
open PySem (Str PyData)
open MV
end Ov
namespace Ov
open PySem (Str PyData)
open MV
def c4 : List Str := [Str.ofString "NoWord", Str.ofString "NoSign", Str.ofString "NoText", Str.ofString "TooMany"]
end Ov
namespace Ov
open PySem (Str PyData)
open MV
abbrev marksS : Str := Str.ofString " !\"#$&'()*+,-./0123456789:;<=>?@ABCDEFGHIJKLMNOPQRSTUVWXYZ[\\]^_`{|}~\n"
def oddL : List Str := [Str.ofString "", Str.ofString "ab", Str.ofString "aa", Str.ofString "Aa"] ++ marksS.cps.toList.map fun c => ⟨#[c]⟩
theorem oddL_all : oddL.all (fun x => PyData.strOk x && decide (x.length ≤ 100) && !isSg x) = true := by decide +kernel
theorem oddL_mem {x : Str} (h : x ∈ oddL) : okS x ∧ x.length ≤ 100 ∧ isSg x = false := by
  have := List.all_eq_true.mp oddL_all x h
  simp only [Bool.and_eq_true, decide_eq_true_iff, Bool.not_eq_true'] at this
  exact ⟨this.1.1, this.1.2, this.2⟩
def Wd (t : List Str) : Prop := ∀ x ∈ t, Sg x ∨ x ∈ oddL
theorem Wd.gd {t : List Str} (h : Wd t) : Gd t := fun x hx => by
  rcases h x hx with q | q
  · exact Tx.gd (t := [x]) (fun y hy => by rw [List.mem_singleton.mp hy]; exact q) x List.mem_cons_self
  · exact ⟨(oddL_mem q).1, (oddL_mem q).2.1⟩
theorem Wd.set {t : List Str} (h : Wd t) {x : Str} (hx : x ∈ oddL) (k : Nat) : Wd (t.set k x) := fun y hy => by
  rcases List.mem_or_eq_of_mem_set hy with hy | hy
  · exact h y hy
  · rw [hy]; exact .inr hx
end Ov
namespace Ov
open PySem (Str PyData)
open MV
section
variable {t w : List Str}
end
end Ov
namespace Ov
open PySem (Str PyData)
open MV
section
variable {t w : List Str}
def roomR (t w : List Str) : Option Nat := if w = [] then some 0 else if w.filter (fun x => !isSg x) = [] then (if t.filter (fun x => !isSg x) = [] then (if t.length < w.length then some 2 else none) else some 1) else some 1
noncomputable def ref1 (t w : List Str) (ch : List Int) : Option Nat := match roomR t w with
  | some c => some c
  | none => if okC t w ch then none else some 3
end
end Ov
namespace Ov
open PySem (Str PyData)
open MV
section
variable {α : Type}
end
section
variable {t w : List Str}
end
end Ov
namespace Ov
structure Dns (L : List Nat) (s E : Nat) : Prop where
  srt : Srt L
  pos : 0 < s
  last : E ∈ L
  le : ∀ p ∈ L, p ≤ E
  nx : ∀ p ∈ L, p < E → ∃ q ∈ L, p < q ∧ q ≤ p + s
def cnd (L : List Nat) (s p : Nat) : List Nat := L.filter fun q => decide (p < q) && decide (q ≤ p + s)
def far (L : List Nat) (s p : Nat) : Nat := (L.filter fun q => decide (q ≤ p + s)).getLastD p
def gr (L : List Nat) (s E p : Nat) : Nat := if p < E then 1 + gr L s E (max (p + 1) (far L s p)) else 0
termination_by E - p
decreasing_by omega
section
variable {L : List Nat} {s E : Nat}
def gd (L : List Nat) (s E p : Nat) : List Nat := (cnd L s p).filter fun q => decide (gr L s E q + 1 = gr L s E p)
def fs (L : List Nat) (s E p : Nat) : Nat := (gd L s E p).headD E
def fl (L : List Nat) (s E p : Nat) : List Nat := if p < E then fs L s E p :: fl L s E (max (p + 1) (fs L s E p)) else []
termination_by E - p
decreasing_by omega
end
end Ov
namespace Ov
open PySem (Str PyData)
open MV
section
variable {t w : List Str}
end
end Ov
namespace Ov
open PySem (Str PyData)
open MV
section
variable {t w : List Str} {E : Nat}
end
end Ov
namespace Ov
open PySem (Str PyData)
open MV
section
variable {L : List Nat} {s E : Nat}
end
end Ov
namespace Ov
open PySem (Str PyData)
open MV
abbrev T3L := Nat × Nat × List Nat
section
variable {t w : List Str} {wh : Bool}
def kx (t w : List Str) (wh : Bool) (c : List Nat) : T3L := (wrV t w 0 0 + costS t w 0 c, c.length + 1, if wh then 0 :: c else [0])
end
end Ov
namespace Ov
open PySem (Str PyData)
open MV
section
variable {L : List Nat} {s E : Nat}
end
end Ov
namespace Ov
open PySem (Str PyData)
open MV
end Ov
namespace Ov
open PySem (Str PyData)
open MV
end Ov
namespace Ov
open PySem (Str PyData)
open MV
section
variable {t w : List Str}
end
end Ov
namespace Ov
open PySem (Str PyData)
open MV
theorem gSum_dN (l : List Nat) : gSum [dN l] = some (.int ((l.sum : Nat) : Int)) := by
  rw [dN_dI, gSum_dI]
  congr 2
  induction l with
  | nil => rfl
  | cons a r ih => rw [List.map_cons, List.sum_cons, List.sum_cons, ih]; simp
section
variable {t w : List Str}
end
end Ov
namespace Ov
open PySem (Str PyData)
open MV
theorem countP_int (a b : Nat) : ∀ n, (List.range n).countP (fun j => decide (a ≤ j ∧ j < b)) = min b n - min a n
  | 0 => by simp
  | n + 1 => by
    rw [List.range_succ, List.countP_append, countP_int a b n, List.countP_cons, List.countP_nil]
    by_cases h : a ≤ n ∧ n < b
    · rw [decide_eq_true h, if_pos rfl]; omega
    · rw [decide_eq_false h, if_neg (by decide)]; omega
theorem countP_or {α : Type} {P Q R : α → Bool} : ∀ (l : List α), (∀ j ∈ l, R j = (P j || Q j)) → (∀ j ∈ l, P j = true → Q j = false) → l.countP R = l.countP P + l.countP Q
  | [], _, _ => rfl
  | x :: l, h1, h2 => by
    rw [List.countP_cons, List.countP_cons, List.countP_cons, countP_or l (fun j hj => h1 j (List.mem_cons_of_mem _ hj)) (fun j hj => h2 j (List.mem_cons_of_mem _ hj)), h1 x List.mem_cons_self]
    have := h2 x List.mem_cons_self
    cases hp : P x with
    | false => cases Q x <;> simp <;> omega
    | true => rw [this hp]; simp; omega
def cvB (k : Nat) (L : List Nat) (j : Nat) : Bool := L.any fun p => decide (p ≤ j ∧ j < p + k)
def ncv (n k : Nat) (L : List Nat) : Nat := (List.range n).countP (cvB k L)
def gs (k : Nat) : List Nat → Nat
  | [] => 0
  | [_] => k
  | p :: q :: r => min k (q - p) + gs k (q :: r)
theorem cvB_iff {k : Nat} {L : List Nat} {j : Nat} : cvB k L j = true ↔ ∃ p ∈ L, p ≤ j ∧ j < p + k := by
  unfold cvB
  rw [List.any_eq_true]
  exact ⟨fun ⟨p, a, b⟩ => ⟨p, a, of_decide_eq_true b⟩, fun ⟨p, a, b⟩ => ⟨p, a, decide_eq_true b⟩⟩
theorem ncv_gs {n k : Nat} : ∀ {L : List Nat}, L.Pairwise (· < ·) → (∀ p ∈ L, p + k ≤ n) → ncv n k L = gs k L
  | [], _, _ => by
    unfold ncv gs
    rw [List.countP_eq_zero]
    intro j _
    simp [cvB]
  | [p], _, h => by
    have := h p List.mem_cons_self
    have e : cvB k [p] = fun j => decide (p ≤ j ∧ j < p + k) := by funext j; simp [cvB]
    unfold ncv gs
    rw [e, countP_int]
    omega
  | p :: q :: r, hs, h => by
    have hp := h p List.mem_cons_self
    have lt : ∀ x ∈ q :: r, p < x := fun x hx => List.rel_of_pairwise_cons hs hx
    have hs2 := (List.pairwise_cons.mp hs).2
    have lq : ∀ x ∈ q :: r, q ≤ x := fun x hx => by
      rcases List.mem_cons.mp hx with rfl | hx
      · exact Nat.le_refl _
      · exact Nat.le_of_lt (List.rel_of_pairwise_cons hs2 hx)
    have pq := lt q List.mem_cons_self
    have ih := ncv_gs (n := n) (k := k) hs2 (fun x hx => h x (List.mem_cons_of_mem _ hx))
    unfold ncv at ih ⊢
    have a1 : (List.range n).countP (fun j => decide (p ≤ j ∧ j < p + min k (q - p))) = min k (q - p) := by rw [countP_int]; omega
    rw [countP_or (P := fun j => decide (p ≤ j ∧ j < p + min k (q - p))) (Q := cvB k (q :: r)), a1, ih]
    · rfl
    · intro j _
      rw [Bool.eq_iff_iff, Bool.or_eq_true, cvB_iff, cvB_iff, decide_eq_true_iff]
      constructor
      · rintro ⟨x, hx, h1, h2⟩
        rcases List.mem_cons.mp hx with rfl | hx
        · by_cases c : j < q
          · exact .inl ⟨h1, by omega⟩
          · exact .inr ⟨q, List.mem_cons_self, by omega, by omega⟩
        · exact .inr ⟨x, hx, h1, h2⟩
      · rintro (⟨h1, h2⟩ | ⟨x, hx, h1, h2⟩)
        · exact ⟨p, List.mem_cons_self, h1, by omega⟩
        · exact ⟨x, List.mem_cons_of_mem _ hx, h1, h2⟩
    · intro j _ hj
      have := of_decide_eq_true hj
      rw [Bool.eq_false_iff]
      intro hc
      obtain ⟨x, hx, h1, h2⟩ := cvB_iff.mp hc
      have := lq x hx
      omega
section
variable {t w : List Str}
def nC (t w : List Str) : Nat := ncv t.length w.length (lies t w)
theorem lies_srt (t w : List Str) : (lies t w).Pairwise (· < ·) := List.Pairwise.filter _ List.pairwise_lt_range
theorem nC_gs : nC t w = gs w.length (lies t w) := ncv_gs (lies_srt t w) fun p hp => lies_lt hp
end
end Ov
namespace Ov
open PySem (Str PyData)
open MV
def pP (x : Nat × Nat) : PyData := .tuple [.int (x.1 : Int), .int (x.2 : Int)]
theorem toP_pair (x : Nat × Nat) : (D.tup [.int (x.1 : Int), .int (x.2 : Int)]).toP = some (pP x) := rfl
theorem toPs_pairs (l : List (Nat × Nat)) : toPs (l.map fun x => D.tup [.int (x.1 : Int), .int (x.2 : Int)]) = some (l.map pP) := by
  induction l with
  | nil => rfl
  | cons a r ih => rw [List.map_cons, toPs, toP_pair, ih]; rfl
theorem lay_pair {n : Nat} (x : Nat × Nat) : Lay (n + 1) (D.tup [.int (x.1 : Int), .int (x.2 : Int)]) := lay_tup fun y hy => by
  simp at hy
  rcases hy with rfl | rfl <;> exact lay_int _
theorem lay_dP (l : List (Nat × Nat)) : Lay 64 (dP l) := lay_lst (n := 63) fun x hx => by
  obtain ⟨y, _, rfl⟩ := List.mem_map.mp hx
  exact lay_pair y
section
variable {t : List Str}
end
end Ov
namespace Ov
open PySem (Str PyData)
open MV
def bsF (f : Nat → Nat) : Nat → Nat × Nat
  | 0 => (0, 0)
  | i + 1 => if (bsF f i).1 < f i then (f i, i) else bsF f i
theorem bsF_ge {f : Nat → Nat} {i : Nat} : ∀ {j}, j < i → f j ≤ (bsF f i).1 := by
  induction i with
  | zero => intro j h; omega
  | succ i ih =>
    intro j h
    rw [bsF]
    by_cases c : (bsF f i).1 < f i
    · rw [if_pos c]
      by_cases e : j = i
      · subst e; exact Nat.le_refl _
      · have := ih (j := j) (by omega); show _ ≤ f i; omega
    · rw [if_neg c]
      by_cases e : j = i
      · subst e; omega
      · exact ih (by omega)
theorem bsF_at {f : Nat → Nat} : ∀ {i}, 0 < (bsF f i).1 → (bsF f i).2 < i ∧ f (bsF f i).2 = (bsF f i).1
  | 0, h => absurd h (Nat.lt_irrefl 0)
  | i + 1, h => by
    rw [bsF] at h ⊢
    by_cases c : (bsF f i).1 < f i
    · rw [if_pos c]; exact ⟨Nat.lt_succ_self _, rfl⟩
    · rw [if_neg c] at h ⊢
      have := bsF_at (i := i) h
      exact ⟨by omega, this.2⟩
def prD (x : Nat × Nat) : D := .tup [.int (x.1 : Int), .int (x.2 : Int)]
section
variable {t : List Str} {k : Nat}
def fC (t : List Str) (k j : Nat) : Nat := nC t (pc t k j)
theorem nC_le {w : List Str} : nC t w ≤ t.length := by
  unfold nC ncv
  exact Nat.le_trans List.countP_le_length (by rw [List.length_range]; exact Nat.le_refl _)
theorem bsF_le (m : Nat) : (bsF (fC t k) m).1 ≤ t.length ∧ (bsF (fC t k) m).2 ≤ m := by
  induction m with
  | zero => exact ⟨Nat.zero_le _, Nat.le_refl _⟩
  | succ m ih =>
    rw [bsF]
    by_cases c : (bsF (fC t k) m).1 < fC t k m
    · rw [if_pos c]; exact ⟨nC_le, Nat.le_succ _⟩
    · rw [if_neg c]; exact ⟨ih.1, by omega⟩
def fstL (t : List Str) (k i : Nat) : List Nat := (List.range i).filter (fstAt t k)
def occ (t : List Str) (k i j : Nat) : List Nat := (List.range i).filter fun p => decide (pc t k p = pc t k j)
theorem fstL_succ (i : Nat) : fstL t k (i + 1) = fstL t k i ++ if fstAt t k i = true then [i] else [] := range_filter_succ _ _
theorem occ_succ (i j : Nat) : occ t k (i + 1) j = occ t k i j ++ if pc t k i = pc t k j then [i] else [] := by
  unfold occ
  rw [range_filter_succ]
  by_cases h : pc t k i = pc t k j <;> simp [h]
theorem fst_meet : ∀ {p i : Nat}, p < i → ∃ j ∈ fstL t k i, pc t k j = pc t k p := by
  intro p
  induction p using Nat.strongRecOn with
  | ind p ih =>
    intro i hi
    by_cases c : fstAt t k p = true
    · exact ⟨p, List.mem_filter.mpr ⟨List.mem_range.mpr hi, c⟩, rfl⟩
    · have : ¬ ∀ q, q < p → pc t k q ≠ pc t k p := fun h => c (fstAt_iff.mpr h)
      obtain ⟨q, hq⟩ := Classical.not_forall.mp this
      obtain ⟨q1, q2⟩ := Classical.not_imp.mp hq
      have q2 := Classical.not_not.mp q2
      obtain ⟨j, j1, j2⟩ := ih q q1 (i := i) (by omega)
      exact ⟨j, j1, j2.trans q2⟩
theorem fst_ne (i : Nat) : (fstL t k i).Pairwise fun a b => pc t k a ≠ pc t k b := by
  unfold fstL
  refine List.Pairwise.imp_of_mem ?_ (List.Pairwise.filter _ (List.pairwise_lt_range (n := i)))
  intro a b _ hb h
  exact fstAt_iff.mp (List.mem_filter.mp hb).2 a h
theorem fst_len (i : Nat) : (fstL t k i).length ≤ i := by
  unfold fstL
  exact Nat.le_trans (List.length_filter_le _ _) (by rw [List.length_range]; exact Nat.le_refl _)
theorem occ_len (i j : Nat) : (occ t k i j).length ≤ i := by
  unfold occ
  exact Nat.le_trans (List.length_filter_le _ _) (by rw [List.length_range]; exact Nat.le_refl _)
def mK (t : List Str) (k i' i : Nat) : List (List L2.Key × D) := (fstL t k i').map fun j => (metK (pc t k j), dN (occ t k i j))
theorem mK_dval (i : Nat) : (dval (mK t k i i) (metK (pc t k i))).isSome = !fstAt t k i := by
  unfold dval mK
  rw [Option.isSome_map, List.find?_map, Option.isSome_map]
  cases c : fstAt t k i with
  | true =>
    rw [Bool.not_true, Option.isSome_eq_false_iff, Option.isNone_iff_eq_none, List.find?_eq_none]
    intro j hj
    show ¬ decide (metK (pc t k j) = metK (pc t k i)) = true
    rw [decide_eq_true_iff]
    exact fun e => fstAt_iff.mp c j (List.mem_range.mp (List.mem_filter.mp hj).1) (metK_inj.mp e)
  | false =>
    rw [Bool.not_false, List.find?_isSome]
    have : ¬ ∀ q, q < i → pc t k q ≠ pc t k i := fun h => by rw [fstAt_iff.mpr h] at c; cases c
    obtain ⟨q, hq⟩ := Classical.not_forall.mp this
    obtain ⟨q1, q2⟩ := Classical.not_imp.mp hq
    have q2 := Classical.not_not.mp q2
    obtain ⟨j, j1, j2⟩ := fst_meet (t := t) (k := k) q1
    refine ⟨j, j1, ?_⟩
    show decide (metK (pc t k j) = metK (pc t k i)) = true
    exact decide_eq_true (metK_inj.mpr (j2.trans q2))
theorem mK_new {i : Nat} (h : fstAt t k i = true) : mK t k i i ++ [(metK (pc t k i), D.lst [])] = mK t k (i + 1) i := by
  unfold mK
  rw [fstL_succ, if_pos h, List.map_append]
  congr 1
  have : occ t k i i = [] := by
    unfold occ
    rw [List.filter_eq_nil_iff]
    intro p hp
    rw [decide_eq_true_iff]
    exact fstAt_iff.mp h p (List.mem_range.mp hp)
  rw [List.map_cons, List.map_nil, this]
  rfl
theorem mK_old {i : Nat} (h : fstAt t k i = false) : mK t k i i = mK t k (i + 1) i := by
  unfold mK
  rw [fstL_succ, if_neg (by rw [h]; decide), List.append_nil]
theorem mK_row {i : Nat} : ∃ m j, (fstL t k (i + 1))[m]? = some j ∧ pc t k j = pc t k i ∧ rowK (mK t k (i + 1) i) (.tup ((pc t k i).map D.str)) = some (m, metK (pc t k i), (occ t k i j).map fun n : Nat => D.int (n : Int)) ∧
    (mK t k (i + 1) i).set m (metK (pc t k i), dN (occ t k i j ++ [i])) = mK t k (i + 1) (i + 1) := by
  obtain ⟨j, j1, j2⟩ := fst_meet (t := t) (k := k) (p := i) (i := i + 1) (by omega)
  obtain ⟨m, m1, m2⟩ := List.getElem_of_mem j1
  have mg : (fstL t k (i + 1))[m]? = some j := by rw [List.getElem?_eq_getElem m1, m2]
  have pw := List.pairwise_iff_getElem.mp (fst_ne (t := t) (k := k) (i + 1))
  refine ⟨m, j, mg, j2, ?_, ?_⟩
  · unfold rowK
    show ((keysD ((pc t k i).map D.str)).bind _) = _
    rw [keysD_strs]
    have fi : ((mK t k (i + 1) i).findIdx? fun kv => decide (kv.1 = metK (pc t k i))) = some m := by
      rw [List.findIdx?_eq_some_iff_getElem]
      refine ⟨by unfold mK; rw [List.length_map]; exact m1, ?_, ?_⟩
      · unfold mK
        rw [List.getElem_map, m2]
        exact decide_eq_true (metK_inj.mpr j2)
      · intro m' hm'
        unfold mK
        rw [List.getElem_map]
        show ¬ decide (metK _ = metK _) = true
        rw [decide_eq_true_iff]
        intro e
        have := pw m' m (by omega) m1 hm'
        rw [m2] at this
        exact this ((metK_inj.mp e).trans j2.symm)
    have gm : (mK t k (i + 1) i)[m]? = some (metK (pc t k j), dN (occ t k i j)) := by
      unfold mK; rw [List.getElem?_map, mg]; rfl
    show (((mK t k (i + 1) i).findIdx? fun kv => decide (kv.1 = metK (pc t k i))).bind _) = _
    rw [fi]
    show (match (mK t k (i + 1) i)[m]? with | some (_, .lst es) => some (m, metK (pc t k i), es) | _ => none) = _
    rw [gm]
  · apply List.ext_getElem?
    intro m'
    by_cases c : m = m'
    · subst c
      rw [List.getElem?_set_self (by unfold mK; rw [List.length_map]; exact m1)]
      unfold mK
      rw [List.getElem?_map, mg]
      show _ = some (metK (pc t k j), dN (occ t k (i + 1) j))
      rw [occ_succ, if_pos j2.symm, j2]
    · rw [List.getElem?_set_ne c]
      unfold mK
      rw [List.getElem?_map, List.getElem?_map]
      cases q : (fstL t k (i + 1))[m']? with
      | none => rfl
      | some j' =>
        obtain ⟨q1, q2⟩ := List.getElem?_eq_some_iff.mp q
        have ne : pc t k i ≠ pc t k j' := by
          rcases Nat.lt_or_gt_of_ne c with h | h
          · have := pw m m' m1 q1 h
            rw [m2, q2, j2] at this
            exact this
          · have := pw m' m q1 m1 h
            rw [m2, q2, j2] at this
            exact fun e => this e.symm
        show some (_, dN (occ t k i j')) = some (_, dN (occ t k (i + 1) j'))
        rw [occ_succ, if_neg ne, List.append_nil]
end
end Ov
namespace Ov
open PySem (Str PyData)
open MV
theorem dapp_ok {i : Nat} {fk f : M D} {e : PEnv} {kvs : List (List L2.Key × D)} {kd x : D} {j : Nat} {kk : List L2.Key} {es : List D} (h : ditAt i e = some kvs) (hk : fk e = .ok kd e) (hr : rowK kvs kd = some (j, kk, es)) (hf : f e = .ok x e) (hx : x.tuo = true) (hl : es.length < LIM) :
    sDApp i fk f e = .ok .nx (e.set i (some (.dit (kvs.set j (kk, .lst (es ++ [x])))))) := by
  unfold sDApp
  simp only [h]
  rw [bnd_of_ok hk]
  simp only [hr]
  rw [bnd_of_ok hf]
  simp [hx, hl]
theorem dpe_ok {i : Nat} {fk : M D} {e : PEnv} {kvs : List (List L2.Key × D)} {kd : D} {kk : List L2.Key} (h : ditAt i e = some kvs) (hk : fk e = .ok kd e) (hn : newK kvs kd = some kk) :
    sDPE i fk e = .ok .nx (e.set i (some (.dit (kvs ++ [(kk, .lst [])])))) := by
  unfold sDPE
  simp only [h]
  rw [bnd_of_ok hk]
  simp only [hn]
section
variable {t : List Str} {k : Nat}
theorem most_row1 {i : Nat} (ht : Tx t) (hl : t.length ≤ 900) (k0 : 0 < k) (hi : i + k ≤ t.length) {x6 x4 x5 x7 x8 x9 : Option D} :
    ∃ x6', B_most_of_l1 [some (dT t), some (.int (k : Int)), some (.dit (mK t k i i)), some (.int (i : Int)), x4, x5, x6, x7, x8, x9] = .ok .nx [some (dT t), some (.int (k : Int)), some (.dit (mK t k (i + 1) (i + 1))), some (.int (i : Int)), x4, x5, x6', x7, x8, x9] := by
  have cm : cutA t (some (i : Int)) (some ((i : Int) + (k : Int))) = pc t k i := cutA_mid2 t i k
  obtain ⟨m, j, mg, j2, rk, st⟩ := mK_row (t := t) (k := k) (i := i)
  have dv := mK_dval (t := t) (k := k) i
  have kd := keysD_strs (pc t k i)
  have ol := occ_len (t := t) (k := k) i j
  have fl := fst_len (t := t) (k := k) i
  have oL : (occ t k i j).length < LIM := by show _ < 100000; omega
  have tu : (D.int (i : Int)).tuo = true := rfl
  refine ⟨some (.tup ((pc t k i).map D.str)), ?_⟩
  have app : sDApp 2 (eV 6) (eS (eV 3)) [some (dT t), some (.int (k : Int)), some (.dit (mK t k (i + 1) i)), some (.int (i : Int)), x4, x5, some (.tup ((pc t k i).map D.str)), x7, x8, x9] = .ok .nx [some (dT t), some (.int (k : Int)), some (.dit (mK t k (i + 1) (i + 1))), some (.int (i : Int)), x4, x5, some (.tup ((pc t k i).map D.str)), x7, x8, x9] := by
    rw [← st]
    refine (dapp_ok (i := 2) (fk := eV 6) (f := eS (eV 3)) (e := [some (dT t), some (.int (k : Int)), some (.dit (mK t k (i + 1) i)), some (.int (i : Int)), x4, x5, some (.tup ((pc t k i).map D.str)), x7, x8, x9]) (kvs := mK t k (i + 1) i) (kd := .tup ((pc t k i).map D.str)) (x := .int (i : Int)) rfl rfl rk rfl tu (by rw [List.length_map]; exact oL)).trans ?_
    show Res.ok _ [_, _, some (D.dit ((mK t k (i + 1) i).set m (metK (pc t k i), .lst (((occ t k i j).map fun n : Nat => D.int (n : Int)) ++ [.int (i : Int)])))), _, _, _, _, _, _, _] = _
    rw [show D.lst (((occ t k i j).map fun n : Nat => D.int (n : Int)) ++ [.int (i : Int)]) = dN (occ t k i j ++ [i]) by show _ = D.lst _; rw [List.map_append]; rfl]
  cases c : fstAt t k i with
  | true =>
    rw [c] at dv
    have nk : newK (mK t k i i) (.tup ((pc t k i).map D.str)) = some (metK (pc t k i)) := by
      unfold newK
      show ((keysD ((pc t k i).map D.str)).bind _) = _
      rw [kd]
      show (if _ then _ else _) = _
      rw [if_pos]
      refine ⟨?_, by unfold mK; rw [List.length_map]; show _ < 100000; omega⟩
      rw [List.any_eq_false]
      intro kv hkv
      unfold mK at hkv
      obtain ⟨j', hj', rfl⟩ := List.mem_map.mp hkv
      rw [decide_eq_true_iff]
      exact fun e => fstAt_iff.mp c j' (List.mem_range.mp (List.mem_filter.mp hj').1) (metK_inj.mp e)
    have put : sDPE 2 (eV 6) [some (dT t), some (.int (k : Int)), some (.dit (mK t k i i)), some (.int (i : Int)), x4, x5, some (.tup ((pc t k i).map D.str)), x7, x8, x9] = .ok .nx [some (dT t), some (.int (k : Int)), some (.dit (mK t k (i + 1) i)), some (.int (i : Int)), x4, x5, some (.tup ((pc t k i).map D.str)), x7, x8, x9] := by
      rw [← mK_new c]
      exact dpe_ok (kd := .tup ((pc t k i).map D.str)) rfl rfl nk
    have dv : dval (mK t k i i) (metK (pc t k i)) = none := by
      cases q : dval (mK t k i i) (metK (pc t k i)) with
      | none => rfl
      | some _ => rw [q] at dv; cases dv
    generalize mK t k i i = M0 at *
    generalize mK t k (i + 1) i = M1 at *
    generalize pc t k i = w at *
    generalize metK w = kw at *
    simp [B_most_of_l1, cutA_map, cm, List.all_map, gDNotIn, dLook, kd, dv, put, app]
  | false =>
    rw [c] at dv
    have mo := mK_old c
    have dv : ¬ dval (mK t k i i) (metK (pc t k i)) = none := fun q => by rw [q] at dv; cases dv
    rw [← mo] at app
    generalize mK t k i i = M0 at *
    generalize pc t k i = w at *
    generalize metK w = kw at *
    simp [B_most_of_l1, cutA_map, cm, List.all_map, gDNotIn, dLook, kd, dv, app]
theorem zip_nat (L : List Nat) : zipD (L.map fun n : Nat => D.int (n : Int)) (cutA (L.map fun n : Nat => D.int (n : Int)) (some 1) none) = (L.zip (L.drop 1)).map fun p => D.tup [.int (p.1 : Int), .int (p.2 : Int)] := by
  unfold zipD
  rw [cutA_map, show cutA L (some 1) none = L.drop 1 from cutA_from L 1, List.zip_map, List.map_map]
  rfl
theorem zip_lt : ∀ {L : List Nat}, L.Pairwise (· < ·) → ∀ p ∈ L.zip (L.drop 1), p.1 < p.2
  | [], _, p, h => by cases h
  | [a], _, p, h => by cases h
  | a :: b :: r, hs, p, h => by
    rcases List.mem_cons.mp h with rfl | h
    · exact List.rel_of_pairwise_cons hs List.mem_cons_self
    · exact zip_lt (L := b :: r) (List.pairwise_cons.mp hs).2 p h
theorem gs_zip (k : Nat) : ∀ {L : List Nat}, L ≠ [] → gs k L = k + ((L.zip (L.drop 1)).map fun p => min k (p.2 - p.1)).sum
  | [], h => absurd rfl h
  | [a], _ => by simp [gs]
  | a :: b :: r, _ => by
    have ih := gs_zip k (L := b :: r) (by simp)
    show min k (b - a) + gs k (b :: r) = k + (((a, b) :: (b :: r).zip r).map fun p => min k (p.2 - p.1)).sum
    rw [ih, List.map_cons, List.sum_cons]
    show _ = k + (min k (b - a) + (((b :: r).zip ((b :: r).drop 1)).map fun p => min k (p.2 - p.1)).sum)
    omega
def stepB (f : Nat → Nat) (b : Nat × Nat) (j : Nat) : Nat × Nat := if b.1 < f j then (f j, j) else b
theorem fold_bsF : ∀ m, (fstL t k m).foldl (stepB (fC t k)) (0, 0) = bsF (fC t k) m
  | 0 => rfl
  | m + 1 => by
    rw [fstL_succ, List.foldl_append, fold_bsF m, bsF]
    cases c : fstAt t k m with
    | true => rw [if_pos rfl]; rfl
    | false =>
      rw [if_neg (by decide), if_neg]
      · rfl
      · have : ¬ ∀ q, q < m → pc t k q ≠ pc t k m := fun h => by rw [fstAt_iff.mpr h] at c; cases c
        obtain ⟨q, hq⟩ := Classical.not_forall.mp this
        obtain ⟨q1, q2⟩ := Classical.not_imp.mp hq
        have q2 := Classical.not_not.mp q2
        have := bsF_ge (f := fC t k) q1
        unfold fC at this ⊢
        rw [q2] at this
        omega
theorem occ_lies {j : Nat} (h : j + k ≤ t.length) : occ t k (t.length + 1 - k) j = lies t (pc t k j) := by
  unfold occ lies
  rw [pc_len h]
  rfl
theorem lies_head {j : Nat} (h : j + k ≤ t.length) (hf : fstAt t k j = true) : (lies t (pc t k j))[0]? = some j := by
  rw [← List.head?_eq_getElem?, ← occ_lies h]
  unfold occ
  rw [List.head?_filter, List.find?_range_eq_some]
  refine ⟨decide_eq_true rfl, List.mem_range.mpr (by omega), fun q hq => ?_⟩
  rw [Bool.not_eq_true', decide_eq_false_iff_not]
  exact fstAt_iff.mp hf q hq
theorem most_row2 {j : Nat} (hl : t.length ≤ 900) (k0 : 0 < k) (hj : j + k ≤ t.length) (hf : fstAt t k j = true) (B0 : Nat × Nat) {x2 x3 x6 x7 : Option D} :
    B_most_of_l2 [some (dT t), some (.int (k : Int)), x2, x3, some (prD B0), some (dN (lies t (pc t k j))), x6, x7, none, none] = .ok .nx [some (dT t), some (.int (k : Int)), x2, x3, some (prD (stepB (fC t k) B0 j)), some (dN (lies t (pc t k j))), x6, some (.int ((fC t k j : Nat) : Int)), none, none] := by
  have hd := lies_head hj hf
  have srt := lies_srt t (pc t k j)
  have ll := lies_len t (pc t k j)
  have nv : fC t k j = gs k (lies t (pc t k j)) := by
    show nC t (pc t k j) = _
    rw [nC_gs, pc_len hj]
  have ne : lies t (pc t k j) ≠ [] := fun h => by rw [h] at hd; cases hd
  rw [gs_zip k ne] at nv
  have zn := zip_nat (lies t (pc t k j))
  have zl := zip_lt srt
  have zlen : ((lies t (pc t k j)).zip ((lies t (pc t k j)).drop 1)).length ≤ 1000 := by rw [List.length_zip]; omega
  generalize lies t (pc t k j) = L at *
  have h1 := lc_pure (is := [8, 9]) (tg := tgT [8, 9]) (t := tTrue) (fe := eN gMin2 (aCons (eV 1) (aCons (e2 gSub (eV 9) (eV 8)) aNil))) (e := [some (dT t), some (.int (k : Int)), x2, x3, some (prD B0), some (dN L), x6, x7, none, none]) (φ := fun p : Nat × Nat => D.tup [.int (p.1 : Int), .int (p.2 : Int)]) (p := fun _ => true) (g := fun p : Nat × Nat => D.int ((min k (p.2 - p.1) : Nat) : Int)) (L.zip (L.drop 1)) [] (by show 0 + _ ≤ 100000; omega)
    (fun p hp => ⟨_, [some (dT t), some (.int (k : Int)), x2, x3, some (prD B0), some (dN L), x6, x7, some (.int (p.1 : Int)), some (.int (p.2 : Int))], rfl, rfl, fun _ => ⟨[some (dT t), some (.int (k : Int)), x2, x3, some (prD B0), some (dN L), x6, x7, some (.int (p.1 : Int)), some (.int (p.2 : Int))], by
      have lt := zl p hp
      have mn : gMin2 [.int (k : Int), .int ((p.2 : Int) - (p.1 : Int))] = some (.int ((min k (p.2 - p.1) : Nat) : Int)) := by
        rw [gMin2_i]
        congr 2
        by_cases c : (p.2 : Int) - (p.1 : Int) < (k : Int)
        · rw [if_pos c]; omega
        · rw [if_neg c]; omega
      generalize prD B0 = BB
      simp [mn, -gMin2_i], rfl⟩, fun h => by cases h⟩)
  rw [List.filter_eq_self.mpr (fun _ _ => rfl), List.nil_append] at h1
  have gsm := gSum_dN ((L.zip (L.drop 1)).map fun p => min k (p.2 - p.1))
  unfold dN at gsm
  rw [List.map_map] at gsm
  have gsm : gSum [.lst ((L.zip (L.drop 1)).map fun p : Nat × Nat => D.int ((min k (p.2 - p.1) : Nat) : Int))] = _ := gsm
  have i0 : L2.atI (L.map fun n : Nat => D.int (n : Int)) 0 = some (.int (j : Int)) := by
    rw [show (0 : Int) = ((0 : Nat) : Int) from rfl, atI_eq, List.getElem?_map, hd]; rfl
  have z2 : (2 : Nat) ≤ PySem.sizeLine := by decide
  have nI : (k : Int) + (((L.zip (L.drop 1)).map fun p => min k (p.2 - p.1)).sum : Nat) = ((fC t k j : Nat) : Int) := by rw [nv]; omega
  have st : stepB (fC t k) B0 j = if B0.1 < fC t k j then (fC t k j, j) else B0 := rfl
  rw [st]
  generalize fC t k j = N at *
  generalize ((L.zip (L.drop 1)).map fun p => min k (p.2 - p.1)).sum = S at *
  generalize (L.zip (L.drop 1)).map (fun p : Nat × Nat => D.tup [.int (p.1 : Int), .int (p.2 : Int)]) = Z1 at *
  generalize (L.zip (L.drop 1)).map (fun p : Nat × Nat => D.int ((min k (p.2 - p.1) : Nat) : Int)) = Z2 at *
  unfold dN at *
  generalize (L.map fun n : Nat => D.int (n : Int)) = LL at *
  unfold prD at *
  by_cases c : B0.1 < N
  · rw [if_pos c]
    have c' : (B0.1 : Int) < (N : Int) := by omega
    simp [B_most_of_l2, zn, h1, gsm, nI, c, c', i0, z2]
  · rw [if_neg c]
    have c' : ¬ (B0.1 : Int) < (N : Int) := by omega
    simp [B_most_of_l2, zn, h1, gsm, nI, c, c', i0, z2]
theorem most_of_val (ht : Tx t) (hl : t.length ≤ 900) (k0 : 0 < k) (hk : k ≤ t.length) : F_most_of [dT t, .int (k : Int)] = .ok (prD (bsF (fC t k) (t.length + 1 - k))) (dT t) := by
  have hs : smallI ((t.length : Int) - (k : Int) + 1) = true := small_of (by omega) (by omega)
  have e1 : ((t.length : Int) - (k : Int) + 1).toNat = t.length + 1 - k := by omega
  have z2 : (2 : Nat) ≤ PySem.sizeLine := by decide
  generalize hm : t.length + 1 - k = m at *
  obtain ⟨e', h1, x3, x6, rfl⟩ := for_inv (tg := tgN 3) (b := B_most_of_l1) (ds := rngD 0 m) (e := [some (dT t), some (.int (k : Int)), some (.dit []), none, none, none, none, none, none, none])
    (fun i e => ∃ (x3 x6 : Option D), e = [some (dT t), some (.int (k : Int)), some (.dit (mK t k i i)), x3, none, none, x6, none, none, none])
    ⟨none, none, rfl⟩
    (fun i d e hd hi => by
      obtain ⟨x3, x6, rfl⟩ := hi
      obtain ⟨hi, rfl⟩ := rng0_get hd
      obtain ⟨y6, r1⟩ := most_row1 (i := i) ht hl k0 (by omega) (x6 := x6) (x4 := none) (x5 := none) (x7 := none) (x8 := none) (x9 := none)
      exact ⟨_, _, .nx, rfl, r1, .inl rfl, _, y6, rfl⟩)
  rw [rngD_len] at h1
  have vals : (mK t k m m).map (·.2) = (fstL t k m).map fun j => dN (lies t (pc t k j)) := by
    unfold mK
    rw [List.map_map]
    refine List.map_congr_left fun j hj => ?_
    have := List.mem_range.mp (List.mem_filter.mp hj).1
    show dN (occ t k m j) = _
    rw [← hm, occ_lies (by omega)]
  obtain ⟨e', h2, y5, y7, rfl⟩ := for_inv (tg := tgN 5) (b := B_most_of_l2) (ds := (fstL t k m).map fun j => dN (lies t (pc t k j))) (e := [some (dT t), some (.int (k : Int)), some (.dit (mK t k m m)), x3, some (prD (0, 0)), none, x6, none, none, none])
    (fun i e => ∃ (x5 x7 : Option D), e = [some (dT t), some (.int (k : Int)), some (.dit (mK t k m m)), x3, some (prD (((fstL t k m).take i).foldl (stepB (fC t k)) (0, 0))), x5, x6, x7, none, none])
    ⟨none, none, rfl⟩
    (fun i d e hd hi => by
      obtain ⟨x5, x7, rfl⟩ := hi
      rw [List.getElem?_map] at hd
      obtain ⟨j, q, rfl⟩ := Option.map_eq_some_iff.mp hd
      have hj := List.mem_filter.mp (List.mem_of_getElem? q)
      have := List.mem_range.mp hj.1
      refine ⟨_, _, .nx, rfl, most_row2 hl k0 (by omega) hj.2 _, .inl rfl, some (dN (lies t (pc t k j))), some (.int ((fC t k j : Nat) : Int)), ?_⟩
      rw [List.take_succ, q, List.foldl_append]
      rfl)
  rw [List.length_map, List.take_length, fold_bsF] at h2
  have h2 : sForV 2 5 B_most_of_l2 [some (dT t), some (.int (k : Int)), some (.dit (mK t k m m)), x3, some (.tup [.int 0, .int 0]), none, x6, none, none, none] = .ok .nx [some (dT t), some (.int (k : Int)), some (.dit (mK t k m m)), x3, some (prD (bsF (fC t k) m)), y5, x6, y7, none, none] := by
    show nox (sForLC (fun _ => true) (tgN 5) B_most_of_l2 ((mK t k m m).map (·.2)) _) = _
    rw [forLC_true, vals]
    have h2 : sForL (tgN 5) B_most_of_l2 _ [some (dT t), some (.int (k : Int)), some (.dit (mK t k m m)), x3, some (.tup [.int 0, .int 0]), none, x6, none, none, none] = _ := h2
    rw [h2]
    rfl
  have dk : dok (.dit []) = true := rfl
  simp only [F_most_of, r_runF, B_most_of]
  generalize prD (bsF (fC t k) m) = BB at *
  generalize mK t k m m = MM at *
  simp [gDNewT, dk, hs, e1, h1, h2, hsz0, z2]
theorem need_number_ok : F_need_number [.bl true] = .ok .non (.bl true) := by
  simp only [F_need_number, r_runF, B_need_number]
  simp
theorem most_covering_val (ht : Tx t) (hl : t.length ≤ 900) (k0 : 0 < k) (hk : k ≤ t.length) : F_most_covering [dT t, .int (k : Int)] = .ok (prD (bsF (fC t k) (t.length + 1 - k))) (dT t) := by
  have mv := most_of_val ht hl k0 hk
  have sv := need_signs_val ht (by show _ ≤ 100000; omega)
  have c1 : (1 : Int) ≤ (k : Int) := by omega
  have c2 : (k : Int) ≤ (t.length : Int) := by omega
  have nn := need_number_ok
  simp only [F_most_covering, r_runF, B_most_covering]
  generalize prD (bsF (fC t k) (t.length + 1 - k)) = BB at *
  simp [sv, c1, c2, hk, k0, nn, mv]
end
end Ov
namespace Ov
open PySem (Str PyData)
open MV
def rn (k : Nat) : Nat → List Nat → List (Nat × Nat)
  | _, [] => []
  | e, p :: L => (if e < p then [(e, p)] else []) ++ rn k (p + k) L
def rnE (k : Nat) : Nat → List Nat → Nat
  | e, [] => e
  | _, p :: L => rnE k (p + k) L
def smR (l : List (Nat × Nat)) : Nat := (l.map fun p => p.2 - p.1).sum
theorem smR_app (a b : List (Nat × Nat)) : smR (a ++ b) = smR a + smR b := by unfold smR; rw [List.map_append, List.sum_append]
theorem rn_snoc (k : Nat) : ∀ (L : List Nat) (e p : Nat), rn k e (L ++ [p]) = rn k e L ++ if rnE k e L < p then [(rnE k e L, p)] else []
  | [], e, p => by
    show (if e < p then [(e, p)] else []) ++ [] = _
    rw [List.append_nil]; rfl
  | q :: L, e, p => by
    show (if e < q then [(e, q)] else []) ++ rn k (q + k) (L ++ [p]) = _
    rw [rn_snoc k L (q + k) p, ← List.append_assoc]
    rfl
theorem rnE_snoc (k : Nat) : ∀ (L : List Nat) (e p : Nat), rnE k e (L ++ [p]) = p + k
  | [], e, p => rfl
  | q :: L, e, p => rnE_snoc k L (q + k) p
theorem rn_len (k : Nat) : ∀ (L : List Nat) (e : Nat), (rn k e L).length ≤ L.length
  | [], e => Nat.le_refl _
  | p :: L, e => by
    have := rn_len k L (p + k)
    unfold rn
    rw [List.length_append, List.length_cons]
    by_cases c : e < p
    · rw [if_pos c]; simp; omega
    · rw [if_neg c]; simp; omega
theorem rn_lt (k : Nat) : ∀ (L : List Nat) (e : Nat), ∀ p ∈ rn k e L, p.1 < p.2
  | [], _, p, h => by cases h
  | q :: L, e, p, h => by
    unfold rn at h
    rcases List.mem_append.mp h with h | h
    · by_cases c : e < q
      · rw [if_pos c] at h
        rw [List.mem_singleton.mp h]; exact c
      · rw [if_neg c] at h; cases h
    · exact rn_lt k L _ p h
theorem rn_sum {n k : Nat} : ∀ {L : List Nat} {p : Nat}, (p :: L).Pairwise (· < ·) → (∀ q ∈ p :: L, q + k ≤ n) → smR (rn k (p + k) (L ++ [n])) + gs k (p :: L) = n - p
  | [], p, _, h => by
    have := h p List.mem_cons_self
    show smR ((if p + k < n then [(p + k, n)] else []) ++ []) + k = n - p
    by_cases c : p + k < n
    · rw [if_pos c]; simp [smR]; omega
    · rw [if_neg c]; simp [smR]; omega
  | q :: r, p, hs, h => by
    have hp := h p List.mem_cons_self
    have hq := h q (by simp)
    have pq := List.rel_of_pairwise_cons hs List.mem_cons_self
    have ih := rn_sum (n := n) (k := k) (List.pairwise_cons.mp hs).2 (fun x hx => h x (List.mem_cons_of_mem _ hx))
    show smR ((if p + k < q then [(p + k, q)] else []) ++ rn k (q + k) (r ++ [n])) + (min k (q - p) + gs k (q :: r)) = n - p
    rw [smR_app]
    by_cases c : p + k < q
    · rw [if_pos c]
      have : smR [(p + k, q)] = q - (p + k) := by simp [smR]
      omega
    · rw [if_neg c]
      have : smR [] = 0 := rfl
      omega
theorem rn_sum0 {n k : Nat} {L : List Nat} (hs : L.Pairwise (· < ·)) (h : ∀ q ∈ L, q + k ≤ n) : smR (rn k 0 (L ++ [n])) + gs k L = n := by
  cases L with
  | nil =>
    show smR ((if 0 < n then [(0, n)] else []) ++ []) + 0 = n
    by_cases c : 0 < n
    · rw [if_pos c]; simp [smR]
    · rw [if_neg c]; simp [smR]; omega
  | cons p r =>
    have hp := h p List.mem_cons_self
    have := rn_sum hs h
    show smR ((if 0 < p then [(0, p)] else []) ++ rn k (p + k) (r ++ [n])) + gs k (p :: r) = n
    rw [smR_app]
    by_cases c : 0 < p
    · rw [if_pos c]
      have : smR [(0, p)] = p := by simp [smR]
      omega
    · rw [if_neg c]
      have : smR [] = 0 := rfl
      omega
section
variable {t w : List Str} {k m : Nat}
def rns (t w : List Str) : List (Nat × Nat) := rn w.length 0 (lies t w ++ [t.length])
theorem rns_sum : smR (rns t w) + nC t w = t.length := by
  rw [nC_gs]
  exact rn_sum0 (lies_srt t w) fun p hp => lies_lt hp
def hcD (t w : List Str) : D := .tup [.int ((nC t w : Nat) : Int), dP (rns t w)]
theorem dP_snoc (l : List (Nat × Nat)) (x : Nat × Nat) : D.lst ((l.map fun x => D.tup [.int (x.1 : Int), .int (x.2 : Int)]) ++ [.tup [.int (x.1 : Int), .int (x.2 : Int)]]) = dP (l ++ [x]) := by
  show _ = D.lst _
  rw [List.map_append]; rfl
theorem runs_row {L : List Nat} {p i : Nat} (hp : L[i]? = some p) (hl : L.length ≤ 1000) (hi : (rn w.length 0 (L.take i)).length < 1001) {x4 x5 x6 : Option D} :
    B_how_covered_v2_l1 [some (dT t), some (dT w), some (dP (rn w.length 0 (L.take i))), some (.int ((rnE w.length 0 (L.take i) : Nat) : Int)), some (.int (p : Int)), x5, x6] = .ok .nx [some (dT t), some (dT w), some (dP (rn w.length 0 (L.take (i + 1)))), some (.int ((rnE w.length 0 (L.take (i + 1)) : Nat) : Int)), some (.int (p : Int)), x5, x6] := by
  have e1 : L.take (i + 1) = L.take i ++ [p] := by rw [List.take_succ, hp]; rfl
  rw [e1, rn_snoc, rnE_snoc]
  have z2 : (2 : Nat) ≤ PySem.sizeLine := by decide
  have ll : ((rn w.length 0 (L.take i)).map fun x : Nat × Nat => D.tup [.int (x.1 : Int), .int (x.2 : Int)]).length < LIM := by rw [List.length_map]; show _ < 100000; omega
  have ds := dP_snoc (rn w.length 0 (L.take i)) (rnE w.length 0 (L.take i), p)
  generalize rnE w.length 0 (L.take i) = E at *
  generalize rn w.length 0 (L.take i) = R at *
  by_cases c : E < p
  · rw [if_pos c, ← ds]
    have c' : (E : Int) < (p : Int) := by omega
    unfold dP at *
    generalize (R.map fun x : Nat × Nat => D.tup [.int (x.1 : Int), .int (x.2 : Int)]) = RR at *
    simp [B_how_covered_v2_l1, c, c', z2, ll]
  · rw [if_neg c, List.append_nil]
    have c' : ¬ (E : Int) < (p : Int) := by omega
    generalize dP R = RR at *
    simp [B_how_covered_v2_l1, c, c', z2]
theorem how_covered_val (ht : Tx t) (hw : Tx w) (w0 : w ≠ []) (hl : t.length ≤ 900) (hl2 : w.length ≤ 1000) : F_how_covered_v2 [dT t, dT w] = .ok (hcD t w) (dT t) := by
  have la := laid_at_val ht hw (by omega) hl2
  have nw := need_word_val hw w0
  have n1 := need_signs_val hw (by show _ ≤ 100000; omega)
  have n2 := need_signs_val ht (by show _ ≤ 100000; omega)
  have ll := lies_len t w
  have z1 : (1 : Nat) ≤ PySem.sizeLine := by decide
  have z2 : (2 : Nat) ≤ PySem.sizeLine := by decide
  have L1 : (lies t w).length + 1 ≤ LIM := by show _ ≤ 100000; omega
  generalize hL : lies t w ++ [t.length] = L
  have hLl : L.length ≤ 1000 := by rw [← hL, List.length_append]; simp; omega
  obtain ⟨e', h1, x4, rfl⟩ := for_inv (tg := tgN 4) (b := B_how_covered_v2_l1) (ds := L.map fun n : Nat => D.int (n : Int)) (e := [some (dT t), some (dT w), some (.lst []), some (.int 0), none, none, none])
    (fun i e => ∃ (x4 : Option D), e = [some (dT t), some (dT w), some (dP (rn w.length 0 (L.take i))), some (.int ((rnE w.length 0 (L.take i) : Nat) : Int)), x4, none, none])
    ⟨none, rfl⟩
    (fun i d e hd hi => by
      obtain ⟨x4, rfl⟩ := hi
      rw [List.getElem?_map] at hd
      obtain ⟨p, q, rfl⟩ := Option.map_eq_some_iff.mp hd
      refine ⟨_, _, .nx, rfl, runs_row q hLl ?_ (x4 := none), .inl rfl, _, rfl⟩
      have := rn_len w.length (L.take i) 0
      rw [List.length_take] at this
      omega)
  rw [List.length_map, List.take_length] at h1
  have hr : rn w.length 0 L = rns t w := by rw [← hL]; rfl
  rw [hr] at h1
  have rl : (rns t w).length ≤ 1000 := by
    have := rn_len w.length L 0
    rw [hr] at this; omega
  have rlt : ∀ p ∈ rns t w, p.1 < p.2 := rn_lt _ _ _
  have rs := rns_sum (t := t) (w := w)
  have lc := fun (x0 x1 x2 x3 x4 : Option D) => lc_pure (is := [5, 6]) (tg := tgT [5, 6]) (t := tTrue) (fe := e2 gSub (eV 6) (eV 5)) (e := [x0, x1, x2, x3, x4, none, none]) (φ := fun p : Nat × Nat => D.tup [.int (p.1 : Int), .int (p.2 : Int)]) (p := fun _ => true) (g := fun p : Nat × Nat => D.int ((p.2 - p.1 : Nat) : Int)) (rns t w) [] (by show 0 + _ ≤ 100000; omega)
    (fun p hp => ⟨_, [x0, x1, x2, x3, x4, some (.int (p.1 : Int)), some (.int (p.2 : Int))], rfl, rfl, fun _ => ⟨[x0, x1, x2, x3, x4, some (.int (p.1 : Int)), some (.int (p.2 : Int))], by
      have := rlt p hp
      have e : (p.2 : Int) - (p.1 : Int) = ((p.2 - p.1 : Nat) : Int) := by omega
      simp [e], rfl⟩, fun h => by cases h⟩)
  have gsm := gSum_dN ((rns t w).map fun p => p.2 - p.1)
  unfold dN at gsm
  rw [List.map_map] at gsm
  have gsm : gSum [.lst ((rns t w).map fun p : Nat × Nat => D.int ((p.2 - p.1 : Nat) : Int))] = some (.int ((smR (rns t w) : Nat) : Int)) := gsm
  rw [List.filter_eq_self.mpr (fun _ _ => rfl)] at lc
  have nI : (t.length : Int) - ((smR (rns t w) : Nat) : Int) = ((nC t w : Nat) : Int) := by omega
  have aL : ((lies t w).map fun n : Nat => D.int (n : Int)) ++ [.int (t.length : Int)] = L.map fun n : Nat => D.int (n : Int) := by rw [← hL, List.map_append]; rfl
  have lnl : ((lies t w).map fun n : Nat => D.int (n : Int)).length = (lies t w).length := List.length_map _
  unfold hcD
  simp only [F_how_covered_v2, r_runF, B_how_covered_v2]
  unfold dN at la
  unfold dP at *
  generalize smR (rns t w) = S at *
  generalize ((rns t w).map fun p : Nat × Nat => D.int ((p.2 - p.1 : Nat) : Int)) = R2 at *
  generalize ((rns t w).map fun x : Nat × Nat => D.tup [.int (x.1 : Int), .int (x.2 : Int)]) = R1 at *
  generalize nC t w = N at *
  generalize ((lies t w).map fun n : Nat => D.int (n : Int)) = LL at *
  generalize (L.map fun n : Nat => D.int (n : Int)) = L3 at *
  simp [nw, n1, n2, la, z1, z2, lnl, L1, aL, h1, lc, gsm, nI, hsz0]
def mx (t : List Str) (s : Nat) : Nat := (bsF (fC t s) (t.length + 1 - s)).1
def lf (t : List Str) (m : Nat) : Nat → Nat
  | 0 => 0
  | 1 => 1
  | s + 2 => if m ≤ mx t (s + 1) then lf t m (s + 1) else s + 2
theorem length_for_val (ht : Tx t) (t0 : t ≠ []) (hl : t.length ≤ 900) (hm : m ≤ t.length) : F_length_for [dT t, .int (m : Int)] = .ok (.int ((lf t m t.length : Nat) : Int)) (dT t) := by
  have p0 := List.length_pos_iff.mpr t0
  have n1 := need_signs_val ht (by show _ ≤ 100000; omega)
  have n2 : F_need_text [dT t] = .ok .non (dT t) := by
    have := gEq_nT ht.ok
    rw [decide_eq_false t0] at this
    simp only [F_need_text, r_runF, B_need_text]
    simp [hsz0, this]
  have nn := need_number_ok
  have c1 : (0 : Int) ≤ (m : Int) := by omega
  have c2 : (m : Int) ≤ (t.length : Int) := by omega
  have z2 : (2 : Nat) ≤ PySem.sizeLine := by decide
  obtain ⟨e', h1, s', rfl, q1, q2⟩ := while_inv (t := T_length_for_l1) (b := B_length_for_l2)
    (fun e => ∃ s : Nat, e = [some (dT t), some (.int (m : Int)), some (.int (s : Int))] ∧ 0 < s ∧ s ≤ t.length ∧ lf t m t.length = lf t m s)
    (fun e : PEnv => match e[2]? with | some (some (D.int s)) => s.toNat | _ => 0)
    (fun e => ∃ s : Nat, e = [some (dT t), some (.int (m : Int)), some (.int (s : Int))] ∧ 0 < s ∧ lf t m t.length = s)
    (fun e he => by
      obtain ⟨s, rfl, s0, s1, s2⟩ := he
      match s, s0 with
      | 1, _ =>
        refine ⟨false, [some (dT t), some (.int (m : Int)), some (.int ((1 : Nat) : Int))], by simp [T_length_for_l1], 1, rfl, by decide, s2⟩
      | s + 2, _ =>
        have mv := most_of_val (k := s + 1) ht hl (by omega) (by omega)
        have e1 : ((s + 2 : Nat) : Int) - 1 = ((s + 1 : Nat) : Int) := by omega
        have g1 : (1 : Int) < ((s + 2 : Nat) : Int) := by omega
        have lfe : lf t m (s + 2) = if m ≤ mx t (s + 1) then lf t m (s + 1) else s + 2 := rfl
        have mxe : (bsF (fC t (s + 1)) (t.length + 1 - (s + 1))).1 = mx t (s + 1) := rfl
        unfold prD at mv
        rw [mxe] at mv
        generalize mx t (s + 1) = M at *
        generalize hs2 : (((s + 2 : Nat)) : Int) = S2 at *
        generalize hs1 : (((s + 1 : Nat)) : Int) = S1 at *
        by_cases c : m ≤ M
        · rw [if_pos c] at lfe
          have c' : (m : Int) ≤ (M : Int) := by omega
          refine ⟨true, [some (dT t), some (.int (m : Int)), some (.int S2)], by simp [T_length_for_l1, e1, g1, mv, c, c'], ?_⟩
          rw [if_pos rfl]
          refine ⟨.nx, [some (dT t), some (.int (m : Int)), some (.int S1)], by simp [B_length_for_l2, e1], .inl rfl, ⟨s + 1, by rw [hs1], by omega, by omega, by rw [s2, lfe]⟩, ?_⟩
          show S1.toNat < S2.toNat
          omega
        · rw [if_neg c] at lfe
          have c' : ¬ (m : Int) ≤ (M : Int) := by omega
          refine ⟨false, [some (dT t), some (.int (m : Int)), some (.int S2)], by simp [T_length_for_l1, e1, g1, mv, c, c'], ?_⟩
          rw [if_neg (by decide)]
          exact ⟨s + 2, by rw [hs2], by omega, by rw [s2, lfe]⟩)
    WFUEL [some (dT t), some (.int (m : Int)), some (.int (t.length : Int))] ⟨t.length, rfl, p0, Nat.le_refl _, rfl⟩ (by
      show (t.length : Int).toNat < WFUEL
      have : 1000 ≤ WFUEL := by decide
      omega)
  rw [q2]
  simp only [F_length_for, r_runF, B_length_for]
  simp [n1, n2, nn, c1, c2, hm, h1]
end
end Ov
namespace Ov
open PySem (Str PyData)
open MV
section
variable {t w : List Str} {wh : Bool}
end
end Ov
namespace Ov
open PySem (Str PyData)
open MV
section
variable {t w : List Str} {wh : Bool}
end
end Ov
namespace Ov
open PySem (Str PyData)
open MV
end Ov
namespace Ov
open PySem (Str PyData)
open MV
theorem mism_set (x : Str) : ∀ (t b : List Str) (i : Nat), mism (t.set i x) b ≤ mism t b + 1 ∧ mism t b ≤ mism (t.set i x) b + 1
  | [], b, i => by simp [mism_nil]
  | a :: t, [], i => by simp [mism]
  | a :: t, y :: b, 0 => by
    rw [List.set_cons_zero, mism_cons, mism_cons]
    constructor <;> split <;> split <;> omega
  | a :: t, y :: b, i + 1 => by
    rw [List.set_cons_succ, mism_cons, mism_cons]
    have := mism_set x t b i
    omega
theorem mism_le : ∀ (t b : List Str), mism t b ≤ t.length
  | [], b => by simp [mism_nil]
  | a :: t, [] => by simp [mism]
  | a :: t, y :: b => by
    rw [mism_cons]
    have := mism_le t b
    simp only [List.length_cons]
    split <;> omega
theorem mism_rev : ∀ (t b : List Str), t.length = b.length → mism t.reverse b.reverse = mism t b
  | [], [], _ => rfl
  | [], y :: b, h => by simp at h
  | a :: t, [], h => by simp at h
  | a :: t, y :: b, h => by
    have h' : t.length = b.length := by simpa using h
    have ih := mism_rev t b h'
    have e : mism (t.reverse ++ [a]) (b.reverse ++ [y]) = mism t.reverse b.reverse + mism [a] [y] := by
      unfold mism
      rw [List.zip_append (by simpa using h'), List.filter_append, List.length_append]
    rw [List.reverse_cons, List.reverse_cons, e, mism_cons, mism_cons, ih, mism_nil]
    omega
def Least (t w : List Str) (n : Nat) : Prop := (∃ c, Stp' w 0 c ∧ lastN 0 c + w.length = t.length ∧ mism t (shw w (0 :: c)) = n) ∧ ∀ c, Stp' w 0 c → lastN 0 c + w.length = t.length → n ≤ mism t (shw w (0 :: c))
theorem Least.set {t w : List Str} {m n i : Nat} {x : Str} (h : Least t w m) (g : Least (t.set i x) w n) : n ≤ m + 1 ∧ m ≤ n + 1 := by
  obtain ⟨⟨c, a1, a2, a3⟩, a4⟩ := h
  obtain ⟨⟨d, b1, b2, b3⟩, b4⟩ := g
  have e1 := a4 d b1 (by simpa using b2)
  have e2 := b4 c a1 (by simpa using a2)
  have e3 := mism_set x t (shw w (0 :: c)) i
  have e4 := mism_set x t (shw w (0 :: d)) i
  omega
end Ov
namespace Ov
open PySem (Str PyData)
open MV
def plcs (a : Nat) : List Nat → List Nat
  | [] => []
  | d :: ds => (a + d) :: plcs (a + d) ds
def bld (w : List Str) : List Nat → List Str
  | [] => w
  | d :: ds => w.take d ++ bld w ds
theorem stp_plcs {w : List Str} : ∀ {r : List Nat} {a : Nat}, Stp' w a r → ∃ ds, (∀ d ∈ ds, d ∈ wayson w) ∧ r = plcs a ds
  | [], a, _ => ⟨[], by simp, rfl⟩
  | b :: r, a, h => by
    obtain ⟨⟨d, hd, rfl⟩, h2⟩ := h
    obtain ⟨ds, g1, rfl⟩ := stp_plcs h2
    exact ⟨d :: ds, by intro x hx; rcases List.mem_cons.mp hx with rfl | hx; exact hd; exact g1 x hx, rfl⟩
theorem plcs_stp {w : List Str} : ∀ {ds : List Nat} {a : Nat}, (∀ d ∈ ds, d ∈ wayson w) → Stp' w a (plcs a ds)
  | [], a, _ => trivial
  | d :: ds, a, h => ⟨⟨d, h d (by simp), rfl⟩, plcs_stp fun x hx => h x (by simp [hx])⟩
theorem plcs_last : ∀ (ds : List Nat) (a : Nat), lastN a (plcs a ds) = a + ds.sum
  | [], a => rfl
  | d :: ds, a => by
    show lastN (a + d) (plcs (a + d) ds) = _
    rw [plcs_last ds (a + d), List.sum_cons]; omega
theorem bld_go {w : List Str} : ∀ (ds : List Nat) (a : Nat) (S : List Str), S.length = a + w.length → S.drop a = w → (∀ d ∈ ds, d ∈ wayson w) →
    (plcs a ds).foldl (fun s p => ovl s p w) S = S.take a ++ bld w ds
  | [], a, S, hS, hd, _ => by
    show S = S.take a ++ w
    rw [← hd, List.take_append_drop]
  | d :: ds, a, S, hS, hd, h => by
    obtain ⟨e1, e2, e3⟩ := ovl_next hS hd (h d (by simp))
    obtain ⟨d1, d2⟩ := wayson_le (h d (by simp))
    show (plcs (a + d) ds).foldl (fun s p => ovl s p w) (ovl S (a + d) w) = S.take a ++ (w.take d ++ bld w ds)
    rw [bld_go ds (a + d) _ e3 e2 fun x hx => h x (by simp [hx]), e1, List.take_append_of_le_length (by omega), List.take_add, hd, List.append_assoc]
theorem shw_bld {w : List Str} {ds : List Nat} (h : ∀ d ∈ ds, d ∈ wayson w) : shw w (0 :: plcs 0 ds) = bld w ds := by
  rw [shw_zero, bld_go (w := w) ds 0 w (by omega) rfl h]; simp
theorem bld_snoc {w : List Str} : ∀ {ds : List Nat} {d : Nat}, d ∈ wayson w → bld w (ds ++ [d]) = bld w ds ++ w.drop (w.length - d)
  | [], d, h => by
    show w.take d ++ w = w ++ w.drop (w.length - d)
    have := wayson_shift h
    calc w.take d ++ w = w.take d ++ (w.take (w.length - d) ++ w.drop (w.length - d)) := by rw [List.take_append_drop]
      _ = _ := by rw [← this, ← List.append_assoc, List.take_append_drop]
  | e :: ds, d, h => by
    show w.take e ++ bld w (ds ++ [d]) = w.take e ++ bld w ds ++ _
    rw [bld_snoc h, List.append_assoc]
theorem wayson_rev {w : List Str} {d : Nat} (h : d ∈ wayson w) : d ∈ wayson w.reverse := by
  have s := wayson_shift h
  unfold wayson at h ⊢
  rw [List.mem_filter] at h ⊢
  refine ⟨by simpa using h.1, ?_⟩
  have hd := List.mem_range'_1.mp h.1
  rw [decide_eq_true_eq, List.length_reverse, List.drop_reverse, List.take_reverse, ← s]
  congr 2
  omega
theorem bld_rev {w : List Str} : ∀ {ds : List Nat}, (∀ d ∈ ds, d ∈ wayson w) → (bld w ds).reverse = bld w.reverse ds.reverse
  | [], _ => rfl
  | d :: ds, h => by
    have hd := h d (by simp)
    obtain ⟨d1, d2⟩ := wayson_le hd
    show (w.take d ++ bld w ds).reverse = _
    rw [List.reverse_append, List.reverse_cons, bld_snoc (wayson_rev hd), bld_rev fun x hx => h x (by simp [hx]), List.length_reverse, List.drop_reverse]
    congr 3
    omega
theorem bld_len {w : List Str} : ∀ {ds : List Nat}, (∀ d ∈ ds, d ∈ wayson w) → (bld w ds).length = ds.sum + w.length
  | [], _ => by show w.length = _; simp
  | d :: ds, h => by
    obtain ⟨d1, d2⟩ := wayson_le (h d (by simp))
    show (w.take d ++ bld w ds).length = _
    rw [List.length_append, List.length_take, bld_len fun x hx => h x (by simp [hx]), List.sum_cons]; omega
theorem least_iff {t w : List Str} {n : Nat} : Least t w n ↔ (∃ ds, (∀ d ∈ ds, d ∈ wayson w) ∧ ds.sum + w.length = t.length ∧ mism t (bld w ds) = n) ∧ ∀ ds, (∀ d ∈ ds, d ∈ wayson w) → ds.sum + w.length = t.length → n ≤ mism t (bld w ds) := by
  constructor
  · rintro ⟨⟨c, a1, a2, a3⟩, a4⟩
    obtain ⟨ds, g1, rfl⟩ := stp_plcs a1
    rw [plcs_last] at a2
    refine ⟨⟨ds, g1, by omega, by rw [← shw_bld g1]; exact a3⟩, fun es h1 h2 => ?_⟩
    rw [← shw_bld h1]
    exact a4 _ (plcs_stp h1) (by rw [plcs_last]; omega)
  · rintro ⟨⟨ds, a1, a2, a3⟩, a4⟩
    refine ⟨⟨plcs 0 ds, plcs_stp a1, by rw [plcs_last]; omega, by rw [shw_bld a1]; exact a3⟩, fun c h1 h2 => ?_⟩
    obtain ⟨es, g1, rfl⟩ := stp_plcs h1
    rw [plcs_last] at h2
    rw [shw_bld g1]
    exact a4 _ g1 (by omega)
theorem Least.rev {t w : List Str} {n : Nat} (h : Least t w n) : Least t.reverse w.reverse n := by
  rw [least_iff] at h ⊢
  obtain ⟨⟨ds, a1, a2, a3⟩, a4⟩ := h
  have lr : ∀ es : List Nat, (∀ d ∈ es, d ∈ wayson w.reverse) → ∀ d ∈ es.reverse, d ∈ wayson w := fun es g d hd => by
    have := wayson_rev (g d (by simpa using hd)); rwa [List.reverse_reverse] at this
  refine ⟨⟨ds.reverse, fun d hd => wayson_rev (a1 d (by simpa using hd)), by simpa using a2, ?_⟩, fun es h1 h2 => ?_⟩
  · rw [← bld_rev a1, mism_rev _ _ (by rw [bld_len a1]; omega)]; exact a3
  · have k := lr es h1
    have s : es.reverse.sum + w.length = t.length := by simpa using h2
    have := a4 es.reverse k s
    rw [← mism_rev _ _ (by rw [bld_len k]; omega), bld_rev k, List.reverse_reverse] at this
    exact this
end Ov
namespace Ov
open PySem (Str PyData)
open MV
theorem Least.le {t w : List Str} {n : Nat} (h : Least t w n) : n ≤ t.length := by
  obtain ⟨⟨c, a1, a2, rfl⟩, _⟩ := h
  exact mism_le _ _
end Ov
namespace Ov
open PySem (Str PyData)
open MV
def prf (f : Nat → Str) (n : Nat) : List Str := (List.range n).map f
structure Per (f : Nat → Str) (π m : Nat) : Prop where
  per : ∀ i, f (i + π) = f i
  pos : 0 < π
  div : π ∣ m
  mp : 0 < m
  ways : ∀ d, d ∈ wayson (prf f m) ↔ 1 ≤ d ∧ d ≤ m ∧ π ∣ d
section
variable {f : Nat → Str} {π m : Nat}
end
def dw (E m k : Nat) : List Nat := (List.range k).map fun i => E - (k - 1 - i) * m
inductive PwLe : List Nat → List Nat → Prop
  | nil : PwLe [] []
  | cons {x y : Nat} {a b : List Nat} : x ≤ y → PwLe a b → PwLe (x :: a) (y :: b)
section
variable {f : Nat → Str} {π m E : Nat}
def kk (E m : Nat) : Nat := (E + m - 1) / m
end
end Ov
namespace Ov
open PySem (Str PyData)
open MV
abbrev sA : Str := Str.ofString "a"
def fA : Nat → Str := fun _ => sA
end Ov
namespace Ov
open PySem (Str PyData)
open MV
end Ov
namespace Ov
open PySem (Str PyData)
open MV
end Ov
namespace Ov
open PySem (Str PyData)
open MV
end Ov
namespace Ov
open PySem (Str PyData)
open MV
end Ov
namespace Ov
open PySem (Str PyData)
open MV
end Ov
namespace Ov
open PySem (Str PyData)
open MV
end Ov
namespace Ov
open PySem (Str PyData)
open MV
end Ov
namespace Ov
open PySem (Str PyData)
open MV
end Ov
namespace Ov
open PySem (Str PyData)
open MV
end Ov
namespace Ov
open PySem (Str PyData)
open MV
end Ov
namespace Ov
open PySem (Str PyData)
open MV
end Ov
namespace Ov
open PySem (Str PyData)
open MV
end Ov
namespace Ov
open PySem (Str PyData)
open MV
end Ov
namespace Ov
open PySem (Str PyData)
open MV
section
variable {w : List Str} {ds : List Nat}
end
def Gl (w : Nat) : Nat → List Nat → Prop
  | _, [] => True
  | r, p :: L => p ≤ r ∧ Gl w (p + w) L
section
variable {t w : List Str} {x : Str} {a : Nat}
end
end Ov
namespace Ov
open PySem (Str PyData)
open MV
def prm (w : List Str) : List Nat := (wayson w).filter fun d => decide ((wayson w).filter (fun e => decide (e < d) && decide (((bld w [d]).drop e).take w.length = w)) = [])
section
variable {w : List Str}
end
end Ov
namespace Ov
open PySem (Str PyData)
open MV
section
variable {N : List Nat}
def cl (N : List Nat) : Nat → List Nat
  | 0 => [1]
  | m + 1 => cl N m ++ [((N.filter fun d => decide (d ≤ m + 1)).map fun d => (cl N m).getD (m + 1 - d) 0).sum]
def cnt (N : List Nat) (m : Nat) : Nat := (cl N m).getD m 0
def cv (N : List Nat) (m d : Nat) : Nat := if d ≤ m then cnt N (m - d) else 0
def rk (N : List Nat) : Nat → List Nat → Nat
  | _, [] => 0
  | m, d :: ds => ((N.takeWhile fun e => decide (e ≠ d)).map (cv N m)).sum + rk N (m - d) ds
def pk (N : List Nat) (m : Nat) : List Nat → Nat → Option (Nat × Nat)
  | [], _ => none
  | d :: l, k => if k < cv N m d then some (d, k) else pk N m l (k - cv N m d)
def un (N : List Nat) : Nat → Nat → Nat → List Nat
  | 0, _, _ => []
  | _ + 1, 0, _ => []
  | f + 1, m + 1, k => match pk N (m + 1) N k with
    | some (d, r) => d :: un N f (m + 1 - d) r
    | none => []
section
variable (hN : ∀ d ∈ N, 1 ≤ d)
include hN
end
end
end Ov
namespace Ov
open PySem (Str PyData)
open MV
def nD (w : List Str) (d : Nat) : D := .tup [dT (w.drop (w.length - d)), .int (d : Int)]
def nx (w : List Str) : List Nat := (prm w).mergeSort fun a b => leD (nD w a) (nD w b)
section
variable {w : List Str}
end
end Ov
namespace Ov
open PySem (Str PyData)
open MV
section
variable {w : List Str}
end
end Ov
namespace Ov
open PySem (Str PyData)
open MV
section
variable {w : List Str} {N : List Nat}
end
end Ov
namespace Ov
open PySem (Str PyData)
open MV
section
variable {w : List Str} {N : List Nat}
end
end Ov
namespace Ov
open PySem (Str PyData)
open MV
section
variable {w : List Str}
theorem lies_mirror {t : List Str} {p q : Nat} (h : p + q + w.length = t.length) : p ∈ lies t w ↔ q ∈ lies t.reverse w.reverse := by
  rw [mem_lies_iff, mem_lies_iff, List.length_reverse, List.length_reverse]
  have e : (t.reverse.drop q).take w.length = ((t.drop p).take w.length).reverse := by
    apply List.ext_getElem?
    intro j
    rw [List.getElem?_take]
    split
    · rename_i hj
      rw [List.getElem?_drop, List.getElem?_reverse (by omega), List.getElem?_reverse (by rw [List.length_take, List.length_drop]; omega), List.length_take, List.length_drop, List.getElem?_take, if_pos (by omega), List.getElem?_drop]
      congr 1
      omega
    · rename_i hj
      rw [List.getElem?_eq_none (by rw [List.length_reverse, List.length_take]; omega)]
  rw [e]
  constructor
  · rintro ⟨_, h2⟩; exact ⟨by omega, by rw [h2]⟩
  · rintro ⟨_, h2⟩; exact ⟨by omega, by rw [← List.reverse_reverse ((t.drop p).take w.length), h2, List.reverse_reverse]⟩
end
end Ov
namespace Ov
open PySem (Str PyData)
open MV
def mir (M : Nat) (x : Nat × Nat) : Nat × Nat := (M - x.2, M - x.1)
theorem rn_mir {M k n : Nat} (hn : n ≤ M) : ∀ (L : List Nat) (e : Nat), e ≤ M → (∀ p ∈ L, p + k ≤ M) → rn k (M - n) ((L.map fun p => M - k - p).reverse ++ [M - e]) = ((rn k e (L ++ [n])).map (mir M)).reverse
  | [], e, he, _ => by
    show (if M - n < M - e then [(M - n, M - e)] else []) ++ [] = (((if e < n then [(e, n)] else []) ++ []).map (mir M)).reverse
    by_cases c : e < n
    · rw [if_pos c, if_pos (by omega)]; rfl
    · rw [if_neg c, if_neg (by omega)]; rfl
  | p :: r, e, he, hL => by
    have hp := hL p List.mem_cons_self
    have ih := rn_mir hn r (p + k) hp fun q hq => hL q (List.mem_cons_of_mem _ hq)
    rw [List.map_cons, List.reverse_cons, rn_snoc, rnE_snoc, show M - k - p = M - (p + k) by omega, ih, show M - (p + k) + k = M - p by omega]
    show _ = (((if e < p then [(e, p)] else []) ++ rn k (p + k) (r ++ [n])).map (mir M)).reverse
    rw [List.map_append, List.reverse_append]
    congr 1
    by_cases c : e < p
    · rw [if_pos c, if_pos (by omega)]; rfl
    · rw [if_neg c, if_neg (by omega)]; rfl
theorem rn_le {k n : Nat} : ∀ (L : List Nat) (e : Nat), (∀ p ∈ L, p ≤ n) → ∀ x ∈ rn k e L, x.2 ≤ n
  | [], _, _, x, h => by cases h
  | p :: r, e, hL, x, h => by
    unfold rn at h
    rcases List.mem_append.mp h with h | h
    · by_cases c : e < p
      · rw [if_pos c] at h
        rw [List.mem_singleton.mp h]; exact hL p List.mem_cons_self
      · rw [if_neg c] at h; cases h
    · exact rn_le r _ (fun q hq => hL q (List.mem_cons_of_mem _ hq)) x h
theorem rn_ge {k : Nat} : ∀ (L : List Nat) (e : Nat), (∀ p ∈ L, e ≤ p + k) → L.Pairwise (· < ·) → ∀ x ∈ rn k e L, e ≤ x.1
  | [], _, _, _, x, h => by cases h
  | p :: r, e, hL, hs, x, h => by
    unfold rn at h
    have ep := hL p List.mem_cons_self
    rcases List.mem_append.mp h with h | h
    · by_cases c : e < p
      · rw [if_pos c] at h
        rw [List.mem_singleton.mp h]; exact Nat.le_refl _
      · rw [if_neg c] at h; cases h
    · have := rn_ge r (p + k) (fun q hq => by have := List.rel_of_pairwise_cons hs hq; omega) (List.pairwise_cons.mp hs).2 x h
      omega
theorem rn_apart {k : Nat} (k0 : 0 < k) : ∀ (L : List Nat) (e : Nat), L.Pairwise (· < ·) → (rn k e L).Pairwise fun x y => x.2 < y.1
  | [], _, _ => List.Pairwise.nil
  | p :: r, e, hs => by
    unfold rn
    have hr := (List.pairwise_cons.mp hs).2
    have ih := rn_apart k0 r (p + k) hr
    by_cases c : e < p
    · rw [if_pos c]
      refine List.pairwise_cons.mpr ⟨fun y hy => ?_, ih⟩
      have := rn_ge r (p + k) (fun q hq => by have := List.rel_of_pairwise_cons hs hq; omega) hr y hy
      show p < y.1
      omega
    · rw [if_neg c]; exact ih
theorem reach_stays {k e : Nat} : ∀ L : List Nat, (∀ q ∈ L, e < q) → reach k e L = e
  | [], _ => rfl
  | q :: r, h => by
    have := h q List.mem_cons_self
    unfold reach
    rw [if_neg (by omega)]
    exact reach_stays r fun x hx => h x (List.mem_cons_of_mem _ hx)
theorem rn_reach {k n : Nat} : ∀ (L : List Nat) (e : Nat), L.Pairwise (· < ·) → (∀ p ∈ L, p + k ≤ n) → e ≤ n → (reach k e L < n → ∃ b r, rn k e (L ++ [n]) = (reach k e L, b) :: r) ∧ (reach k e L = n → (∀ p ∈ L, e ≤ p + k) → rn k e (L ++ [n]) = [])
  | [], e, _, _, he => by
    refine ⟨fun h => ?_, fun h _ => ?_⟩
    · have h : e < n := h
      refine ⟨n, [], ?_⟩
      show (if e < n then [(e, n)] else []) ++ [] = _
      rw [if_pos h]; rfl
    · have h : e = n := h
      show (if e < n then [(e, n)] else []) ++ [] = _
      rw [if_neg (by omega)]; rfl
  | p :: r, e, hs, hn, he => by
    have hp := hn p List.mem_cons_self
    have ih := rn_reach (n := n) r (p + k) (List.pairwise_cons.mp hs).2 (fun q hq => hn q (List.mem_cons_of_mem _ hq)) hp
    have un : rn k e ((p :: r) ++ [n]) = (if e < p then [(e, p)] else []) ++ rn k (p + k) (r ++ [n]) := rfl
    rw [un]
    by_cases c : e < p
    · have rs : reach k e (p :: r) = e := reach_stays _ fun q hq => by
        rcases List.mem_cons.mp hq with rfl | hq
        · exact c
        · have := List.rel_of_pairwise_cons hs hq; omega
      rw [rs, if_pos c]
      exact ⟨fun _ => ⟨p, _, rfl⟩, fun h _ => by omega⟩
    · have rs : reach k e (p :: r) = reach k (p + k) r := by show (if p ≤ e then _ else _) = _; rw [if_pos (by omega)]
      rw [rs, if_neg c, List.nil_append]
      exact ⟨ih.1, fun h _ => ih.2 h fun q hq => by have := List.rel_of_pairwise_cons hs hq; omega⟩
section
variable {t w : List Str}
theorem lies_rev (hw : w.length ≤ t.length) : lies t.reverse w.reverse = ((lies t w).map fun p => t.length - w.length - p).reverse := by
  unfold lies
  rw [List.length_reverse, List.length_reverse]
  have e : ((List.range (t.length + 1 - w.length)).map fun p => t.length - w.length - p).reverse = List.range (t.length + 1 - w.length) := by
    have := List.reverse_range' (s := 0) (n := t.length + 1 - w.length)
    have e2 : ((List.range (t.length + 1 - w.length)).map fun p => t.length - w.length - p) = (List.range (t.length + 1 - w.length)).map (0 + (t.length + 1 - w.length) - 1 - ·) := List.map_congr_left fun p _ => by omega
    rw [e2, ← this, List.reverse_reverse, ← List.range_eq_range']
  conv => lhs; rw [← e]
  rw [List.filter_reverse, List.filter_map]
  congr 2
  refine List.filter_congr fun p hp => ?_
  have hp := List.mem_range.mp hp
  have m := lies_mirror (t := t) (w := w) (p := p) (q := t.length - w.length - p) (by omega)
  show decide ((t.reverse.drop (t.length - w.length - p)).take w.length = w.reverse) = decide ((t.drop p).take w.length = w)
  unfold lies at m
  rw [List.mem_filter, List.mem_filter, List.mem_range, List.mem_range, List.length_reverse, List.length_reverse, decide_eq_true_iff, decide_eq_true_iff] at m
  rw [Bool.eq_iff_iff, decide_eq_true_iff, decide_eq_true_iff]
  exact ⟨fun h => (m.mpr ⟨by omega, h⟩).2, fun h => (m.mp ⟨hp, h⟩).2⟩
theorem rns_rev (w0 : w ≠ []) : rns t.reverse w.reverse = ((rns t w).map (mir t.length)).reverse := by
  by_cases hw : w.length ≤ t.length
  · have := rn_mir (M := t.length) (k := w.length) (n := t.length) (Nat.le_refl _) (lies t w) 0 (Nat.zero_le _) fun p hp => lies_lt hp
    rw [Nat.sub_self, Nat.sub_zero] at this
    unfold rns
    rw [lies_rev hw, List.length_reverse, List.length_reverse]
    exact this
  · have e1 : lies t w = [] := by
      rw [List.eq_nil_iff_forall_not_mem]
      intro p hp
      have := lies_lt hp; omega
    have e2 : lies t.reverse w.reverse = [] := by
      rw [List.eq_nil_iff_forall_not_mem]
      intro p hp
      have := lies_lt hp
      rw [List.length_reverse, List.length_reverse] at this; omega
    unfold rns
    rw [e1, e2, List.length_reverse, List.length_reverse]
    show (if 0 < t.length then [(0, t.length)] else []) ++ [] = (((if 0 < t.length then [(0, t.length)] else []) ++ []).map (mir t.length)).reverse
    by_cases c : 0 < t.length
    · rw [if_pos c]; simp [mir]
    · rw [if_neg c]; rfl
theorem rns_in : ∀ x ∈ rns t w, x.1 < x.2 ∧ x.2 ≤ t.length := fun x hx =>
  ⟨rn_lt _ _ _ x hx, rn_le _ _ (fun p hp => by
    rcases List.mem_append.mp hp with hp | hp
    · have := lies_lt hp; omega
    · rw [List.mem_singleton.mp hp]; exact Nat.le_refl _) x hx⟩
theorem nC_rev (w0 : w ≠ []) : nC t.reverse w.reverse = nC t w := by
  have a := rns_sum (t := t) (w := w)
  have b := rns_sum (t := t.reverse) (w := w.reverse)
  rw [rns_rev w0, List.length_reverse] at b
  have : smR ((rns t w).map (mir t.length)).reverse = smR (rns t w) := by
    unfold smR
    rw [List.map_reverse, List.sum_reverse, List.map_map]
    congr 1
    refine List.map_congr_left fun x hx => ?_
    have := rns_in x hx
    show t.length - x.1 - (t.length - x.2) = x.2 - x.1
    omega
  omega
theorem rns_apart (w0 : w ≠ []) : (rns t w).Pairwise fun x y => x.2 < y.1 := by
  have k0 := List.length_pos_iff.mpr w0
  refine rn_apart k0 _ _ ?_
  refine List.pairwise_append.mpr ⟨lies_srt t w, by simp, fun p hp q hq => ?_⟩
  rw [List.mem_singleton.mp hq]
  have := lies_lt hp; omega
theorem rns_bare (w0 : w ≠ []) : (reach w.length 0 (lies t w) < t.length → ∃ b r, rns t w = (reach w.length 0 (lies t w), b) :: r) ∧ (¬ reach w.length 0 (lies t w) < t.length → rns t w = []) := by
  obtain ⟨h1, h2⟩ := rn_reach (k := w.length) (n := t.length) (lies t w) 0 (lies_srt t w) (fun p hp => lies_lt hp) (Nat.zero_le _)
  refine ⟨h1, fun h => h2 ?_ fun p _ => Nat.zero_le _⟩
  have := reach_le (t := t) (w := w)
  omega
end
end Ov
namespace Ov
open PySem (Str PyData)
open MV
section
variable {w : List Str}
end
end Ov
namespace Ov
open PySem (Str PyData)
open MV
end Ov
namespace Ov
open PySem (Str PyData)
open MV
end Ov
namespace Ov
open PySem (Str PyData)
open MV
end Ov
namespace Ov
open PySem (Str PyData)
open MV
end Ov
namespace Ov
open PySem (Str PyData)
open MV
section
variable {w : List Str}
end
end Ov
namespace Ov
open PySem (Str PyData)
open MV
end Ov
namespace Ov
open PySem (Str PyData)
open MV
end Ov
namespace Ov
open PySem (Str PyData)
open MV
theorem abc_index (k : Fin 26) : PySem.Builtin.Str.occurrences (Str.ofString "abcdefghijklmnopqrstuvwxyz") ⟨#[97 + k.1]⟩ 0 (Str.ofString "abcdefghijklmnopqrstuvwxyz").length 1 = [k.1] := by
  revert k; decide +kernel
end Ov
namespace Ov
open PySem (Str PyData)
open MV
section
variable {t : List Str} {k : Nat}
theorem lay_pr (x : Nat × Nat) : Lay 64 (prD x) := lay_pair (n := 63) x
end
end Ov
namespace MV
open PySem PySem.Spec PyProof.Rows L2
section
variable {X : Cx} {cf : Cf} {W : WX} {c : Cls} {n n1 n2 n3 : Bool}
end
end MV
namespace Ov
open PySem MV
end Ov
namespace Ov
open PySem (Str PyData)
open MV
def lsI (k : Nat) (L : List Nat) : Int := match L.getLast? with
  | none => -(k : Int)
  | some q => (q : Int)
section
variable {t : List Str} {k : Nat}
def eDk (k : Nat) (L : List Nat) : D := .tup [.int (lsI k L), .int ((gs k L : Nat) : Int)]
def mP (t : List Str) (k i : Nat) : List (List L2.Key × D) := (fstL t k i).map fun j => (metK (pc t k j), eDk k (occ t k i j))
end
end Ov
namespace MV
open PySem PySem.Spec PyProof.Rows L2
theorem tuoL_get : ∀ {ds : List D} {i : Nat} {d : D}, tuoL ds = true → ds[i]? = some d → d.tuo = true
  | [], _, _, _, h => by simp at h
  | d :: ds, 0, _, t, h => by
    rw [tuoL, Bool.and_eq_true] at t
    cases h; exact t.1
  | d :: ds, i + 1, _, t, h => by
    rw [tuoL, Bool.and_eq_true] at t
    exact tuoL_get t.2 h
theorem ref_lst {K : PySem.W.Frag} {G : Hp} {a : Addr} {ys : List V} {d : D} (ha : G a = some (.lst ys)) (h : Rp K true G (.ref a) d) (t : d.tuo = true) : False := by
  generalize hv : V.ref a = v at h
  cases h with
  | sc h => subst hv; cases d <;> cases h
  | tup h r => cases hv; have h : G a = some (.tup _) := h; rw [ha] at h; cases h
  | lst h r => rw [D.tuo] at t; · cases t
               · intro _ z; cases z
  | dic h l r => rw [D.tuo] at t; · cases t
                 · intro _ z; cases z
  | dit h l r => rw [D.tuo] at t; · cases t
                 · intro _ z; cases z
  | exc h => rw [D.tuo] at t; · cases t
             · intro _ z; cases z
mutual
theorem Rp.thN {K : PySem.W.Frag} {G : Hp} {p a : Addr} {xs ys : List V} (hp : G p = some (.tup xs)) (ha : G a = some (.lst ys)) (hm : V.ref a ∈ xs) : ∀ {v : V} {d : D}, Rp K true G v d → d.tuo = true → Rp K true (TH (rm G [p, a])) v d
  | _, _, .sc h, _ => .sc h
  | _, .tup ds, .tup (a := b) h r, t => by
    have t : tuoL ds = true := by rw [D.tuo] at t; exact t
    have h : G b = some (.tup _) := h
    have nb : b ∉ [p, a] := fun m => by
      rcases List.mem_cons.mp m with rfl | m
      · rw [hp] at h; cases h
        obtain ⟨i, hi, e⟩ := List.getElem_of_mem hm
        obtain ⟨d', d1, d2⟩ := r.getV (by rw [List.getElem?_eq_getElem hi, e])
        exact ref_lst ha d2 (tuoL_get t d1)
      · rw [List.mem_singleton.mp m, ha] at h; cases h
    exact .tup (th_tup (by unfold rm; rw [if_neg nb]; exact h)) (RpL.thN hp ha hm r t)
  | _, _, .lst h r, t => by rw [D.tuo] at t; · cases t
                            · intro _ z; cases z
  | _, _, .dic h l r, t => by rw [D.tuo] at t; · cases t
                              · intro _ z; cases z
  | _, _, .dit h l r, t => by rw [D.tuo] at t; · cases t
                              · intro _ z; cases z
  | _, _, .exc h, t => by rw [D.tuo] at t; · cases t
                          · intro _ z; cases z
theorem RpL.thN {K : PySem.W.Frag} {G : Hp} {p a : Addr} {xs ys : List V} (hp : G p = some (.tup xs)) (ha : G a = some (.lst ys)) (hm : V.ref a ∈ xs) : ∀ {vs : List V} {ds : List D}, RpL K true G vs ds → tuoL ds = true → RpL K true (TH (rm G [p, a])) vs ds
  | _, _, .nil, _ => .nil
  | _, _, .cons h r, t => by
    rw [tuoL, Bool.and_eq_true] at t
    exact .cons (Rp.thN hp ha hm h t.1) (RpL.thN hp ha hm r t.2)
end
section
variable {X : Cx} {cf : Cf} {W : WX} {c : Cls} {n n1 n2 : Bool}
end
end MV
namespace Ov
open PySem MV
end Ov
namespace Ov
open PySem MV
def B__law_renamed : M Fl := (sSeq (sSet 3 (eC (.str (Str.ofString "abcdefghijklmnopqrstuvwxyz"))))
  (sRet (eF (eLc [4] (iL (eV 0)) (tgN 4) tTrue (e2 gIx (eV 3) (e2 gMod (e2 gAdd (e2 gMul (eV 2) (eM "str" gSIndex (eV 3) (aCons (eV 4) aNil))) (eV 1)) (eC (.int 26))))))))
def F__law_renamed : List D → FR := runF 5 B__law_renamed
def B__law_first_bare : M Fl := (sRet (e2 gIx (e2 gIx (e2 gIx (eCall F_how_covered_v2 (aCons (eV 0) (aCons (eV 1) aNil))) (eC (.int 1))) (eC (.int 0))) (eC (.int 0))))
def F__law_first_bare : List D → FR := runF 2 B__law_first_bare
def B__law_piece_right : M Fl := (sSeq (sUnp (eCall F_most_covering (aCons (eV 1) (aCons (eV 3) aNil))) (tgT [4, 5]))
  (sSeq (sSet 6 (eSl (eV 1) (oSome (eV 5)) (oSome (e2 gAdd (eV 5) (eV 3)))))
  (sSeq (sIf (tOr2 (tB (e2 gNe (e2 gIx (eCall F_how_covered_v2 (aCons (eV 1) (aCons (eV 6) aNil))) (eC (.int 0))) (eV 4))) (tB (e2 gLt (eV 4) (eV 3)))) (sRet (eC (.bl false))) sSkip)
  (sSeq (sIf (tAnd2 (tB (e2 gEq (eN gLen (aCons (eV 2) aNil)) (eV 3))) (tB (e2 gGt (e2 gIx (eCall F_how_covered_v2 (aCons (eV 1) (aCons (eV 2) aNil))) (eC (.int 0))) (eV 4)))) (sRet (eC (.bl false))) sSkip)
  (sSeq (sSet 7 (eCallW F__law_take_v3 0 (aCons (eC (.int 26)) aNil)))
  (sSeq (sSet 8 (e2 gIx (eN gLst (aCons (eC (.int 1)) (aCons (eC (.int 3)) (aCons (eC (.int 5)) (aCons (eC (.int 7)) (aCons (eC (.int 9)) (aCons (eC (.int 11)) (aCons (eC (.int 15)) (aCons (eC (.int 17)) (aCons (eC (.int 19)) (aCons (eC (.int 21)) (aCons (eC (.int 23)) (aCons (eC (.int 25)) aNil))))))))))))) (eCallW F__law_take_v3 0 (aCons (eC (.int 12)) aNil))))
  (sSeq (sIf (tB (e2 gNe (eCall F_most_covering (aCons (eCall F__law_renamed (aCons (eV 1) (aCons (eV 7) (aCons (eV 8) aNil)))) (aCons (eV 3) aNil))) (eN gTupD (aCons (eV 4) (aCons (eV 5) aNil))))) (sRet (eC (.bl false))) sSkip)
  (sSeq (sIf (tB (e2 gNe (e2 gIx (eCall F_most_covering (aCons (e1 gRev (eV 1)) (aCons (eV 3) aNil))) (eC (.int 0))) (eV 4))) (sRet (eC (.bl false))) sSkip)
  (sSeq (sSet 9 (eCallW F__law_take_v3 0 (aCons (e2 gAdd (e2 gSub (eN gLen (aCons (eV 1) aNil)) (eV 3)) (eC (.int 1))) aNil)))
  (sRet (e2 gLe (e2 gIx (eCall F_how_covered_v2 (aCons (eV 1) (aCons (eSl (eV 1) (oSome (eV 9)) (oSome (e2 gAdd (eV 9) (eV 3)))) aNil))) (eC (.int 0))) (eV 4))))))))))))
def F__law_piece_right : List D → FR := runF 10 B__law_piece_right
def B__law_word_right_v2 : M Fl := (sSeq (sUnp (eCall F_how_covered_v2 (aCons (eV 0) (aCons (eV 1) aNil))) (tgT [2, 3]))
  (sSeq (sSet 4 (eN gSum (aCons (eLc [8, 9] (iL (eV 3)) (tgT [8, 9]) tTrue (e2 gSub (eV 9) (eV 8))) aNil)))
  (sSeq (sIf (tOr2 (tB (e2 gNe (e2 gAdd (eV 2) (eV 4)) (eN gLen (aCons (eV 0) aNil)))) (tB (e2 gNe (eN gSortD (aCons (eV 3) aNil)) (eV 3)))) (sRet (eC (.bl false))) sSkip)
  (sSeq (sIf (tB (e2 gNe (eLc [10, 11] (iN gZp (aCons (eV 3) (aCons (eSl (eV 3) (oSome (eC (.int 1))) oNone) aNil))) (tgT [10, 11]) (tB (e2 gGe (e2 gIx (eV 10) (eC (.int 1))) (e2 gIx (eV 11) (eC (.int 0))))) (eC (.int 1))) (eN gLst aNil))) (sRet (eC (.bl false))) sSkip)
  (sSeq (sSet 5 (eCall F_covered (aCons (eV 0) (aCons (eV 1) aNil))))
  (sSeq (sIf (tB (e2 gNe (e2 gEq (e2 gIx (eV 5) (eC (.int 0))) (eC (.str (Str.ofString "covers")))) (e2 gEq (eV 3) (eN gLst aNil)))) (sRet (eC (.bl false))) sSkip)
  (sSeq (sIf (tAnd2 (tB (e2 gNe (eV 3) (eN gLst aNil))) (tB (e2 gNe (eV 5) (eN gTupD (aCons (eC (.str (Str.ofString "bare"))) (aCons (eCall F__law_first_bare (aCons (eV 0) (aCons (eV 1) aNil))) aNil)))))) (sRet (eC (.bl false))) sSkip)
  (sSeq (sSet 6 (eCall F_how_covered_v2 (aCons (e1 gRev (eV 0)) (aCons (e1 gRev (eV 1)) aNil))))
  (sSeq (sSet 7 (eN gLen (aCons (eV 0) aNil)))
  (sRet (e2 gEq (eV 6) (eN gTupD (aCons (eV 2) (aCons (e1 gRev (eLc [8, 9] (iL (eV 3)) (tgT [8, 9]) tTrue (eN gTupD (aCons (e2 gSub (eV 7) (eV 9)) (aCons (e2 gSub (eV 7) (eV 8)) aNil))))) aNil))))))))))))))
def F__law_word_right_v2 : List D → FR := runF 12 B__law_word_right_v2
def B__law_lengths_right : M Fl := (sSeq (sSet 2 (eCall F_length_for (aCons (eV 0) (aCons (eV 1) aNil))))
  (sSeq (sSet 3 (eLc [4] (iN gR2 (aCons (eC (.int 1)) (aCons (e2 gAdd (eN gLen (aCons (eV 0) aNil)) (eC (.int 1))) aNil))) (tgN 4) tTrue (e2 gIx (eCall F_most_covering (aCons (eV 0) (aCons (eV 4) aNil))) (eC (.int 0)))))
  (sSeq (sIf (tB (e2 gNe (eLc [4] (iL (eSl (eV 3) (oSome (e2 gSub (eV 2) (eC (.int 1)))) oNone)) (tgN 4) (tB (e2 gLt (eV 4) (eV 1))) (eV 4)) (eN gLst aNil))) (sRet (eC (.bl false))) sSkip)
  (sSeq (sIf (tAnd2 (tB (e2 gGt (eV 2) (eC (.int 1)))) (tB (e2 gGe (e2 gIx (eV 3) (e2 gSub (eV 2) (eC (.int 2)))) (eV 1)))) (sRet (eC (.bl false))) sSkip)
  (sSeq (sIf (tAnd2 (tB (e2 gGt (eV 1) (eC (.int 0)))) (tB (e2 gGt (eCall F_length_for (aCons (eV 0) (aCons (e2 gSub (eV 1) (eC (.int 1))) aNil))) (eV 2)))) (sRet (eC (.bl false))) sSkip)
  (sSeq (sIf (tB (e2 gNe (e2 gIx (eV 3) (e1 gNeg (eC (.int 1)))) (eN gLen (aCons (eV 0) aNil)))) (sRet (eC (.bl false))) sSkip)
  (sRet (e2 gEq (eLc [4] (iL (eCall F_all_covers (aCons (eV 0) aNil))) (tgN 4) (tB (e2 gLt (e2 gIx (eV 3) (e2 gSub (eV 4) (eC (.int 1)))) (eN gLen (aCons (eV 0) aNil)))) (eV 4)) (eN gLst aNil)))))))))
def F__law_lengths_right : List D → FR := runF 5 B__law_lengths_right
def B_law_k27_l1 : M Fl := (sIf (tNot1 (tB (eCallW F__law_piece_right 2 (aCons (eV 3) (aCons (eV 4) (aCons (eV 6) aNil)))))) (sRet (eC (.bl false))) sSkip)
def B_law_k27_l2 : M Fl := (sSeq (sSetW 2 (eCall F__law_deck (aCons (eV 1) aNil)))
  (sSeq (sUnp (eCallW F__law_pair 2 (aCons (eC (.bl true)) aNil)) (tgT [3, 4]))
  (sSeq (sSet 5 (e2 gAdd (eC (.int 1)) (eCallW F__law_take_v3 2 (aCons (eN gLen (aCons (eV 3) aNil)) aNil))))
  (sSeq (sIf (tOr2 (tNot1 (tB (eCall F__law_word_right_v2 (aCons (eV 3) (aCons (eV 4) aNil))))) (tNot1 (tB (eCall F__law_word_right_v2 (aCons (eV 3) (aCons (eSl (eV 3) oNone (oSome (eC (.int 3)))) aNil)))))) (sRet (eC (.bl false))) sSkip)
  (sSeq (sFor (iL (eN gLst (aCons (eV 5) (aCons (eN gMin2 (aCons (eN gLen (aCons (eV 4) aNil)) (aCons (eN gLen (aCons (eV 3) aNil)) aNil))) aNil)))) (tgN 6) B_law_k27_l1)
  (sSeq (sIf (tOr2 (tB (e2 gNe (eCall F_most_covering (aCons (eV 3) (aCons (eN gLen (aCons (eV 3) aNil)) aNil))) (eN gTupD (aCons (eN gLen (aCons (eV 3) aNil)) (aCons (eC (.int 0)) aNil))))) (tB (e2 gNe (eCall F_length_for (aCons (eV 3) (aCons (eC (.int 0)) aNil))) (eC (.int 1))))) (sRet (eC (.bl false))) sSkip)
  (sSeq (sSet 3 (eSl (eV 3) oNone (oSome (e2 gIx (eN gLst (aCons (eC (.int 40)) (aCons (eC (.int 40)) (aCons (eC (.int 40)) (aCons (eC (.int 120)) aNil))))) (eCallW F__law_take_v3 2 (aCons (eC (.int 4)) aNil))))))
  (sIf (tNot1 (tB (eCall F__law_lengths_right (aCons (eV 3) (aCons (eCallW F__law_take_v3 2 (aCons (e2 gAdd (eN gLen (aCons (eV 3) aNil)) (eC (.int 1))) aNil)) aNil))))) (sRet (eC (.bl false))) sSkip))))))))
def B_law_k27 : M Fl := (sSeq (sFor (iL (e2 gAdd (eSlQ 0 oNone (oSome (eC (.int 3)))) (eN gLst (aCons (eCallQ F__law_cell_at 0 (aCons (eC (.int 0)) aNil)) aNil)))) (tgN 1) B_law_k27_l2)
  (sRet (eC (.bl true))))
def F_law_k27 : List D → FR := runF 7 B_law_k27
end Ov
namespace Ov
open PySem (Str PyData)
open MV
theorem P_pair (x : Nat × Nat) : (D.tup [.int (x.1 : Int), .int (x.2 : Int)]).P = pP x := P_of (toP_pair x)
theorem sort_dP {R : List (Nat × Nat)} (h : R.Pairwise fun x y => x.1 < y.1) : gSortD [dP R] = some (dP R) := by
  have h1 : okO (R.map fun x : Nat × Nat => D.tup [.int (x.1 : Int), .int (x.2 : Int)]) = true := by
    unfold okO
    rw [List.all_eq_true]
    intro x hx
    obtain ⟨a, ha, rfl⟩ := List.mem_map.mp hx
    have h1 : (D.tup [.int (a.1 : Int), .int (a.2 : Int)]).toP.isSome = true := rfl
    have h2 : (D.tup [.int (a.1 : Int), .int (a.2 : Int)]).P.depth ≤ 60 := by
      rw [P_pair]
      simp [pP, PyData.depth, PyData.depthAll]
    have h3 : ((R.map fun x : Nat × Nat => D.tup [.int (x.1 : Int), .int (x.2 : Int)]).all fun b => PySem.W.alike (D.tup [.int (a.1 : Int), .int (a.2 : Int)]).P b.P) = true := by
      rw [List.all_eq_true]
      intro y hy
      obtain ⟨b, hb, rfl⟩ := List.mem_map.mp hy
      rw [P_pair, P_pair]
      simp [pP, PySem.W.alike, PySem.W.alikeAll]
    rw [h1, h3, decide_eq_true h2]
    rfl
  have h2 : (R.map fun x : Nat × Nat => D.tup [.int (x.1 : Int), .int (x.2 : Int)]).all isTup1 = true := by rw [List.all_map, List.all_eq_true]; intro x _; rfl
  show (if okO (R.map fun x : Nat × Nat => D.tup [.int (x.1 : Int), .int (x.2 : Int)]) && (R.map fun x : Nat × Nat => D.tup [.int (x.1 : Int), .int (x.2 : Int)]).all isTup1 then some (D.lst (srtD (R.map fun x : Nat × Nat => D.tup [.int (x.1 : Int), .int (x.2 : Int)]))) else none) = _
  rw [h1, h2]
  simp only [Bool.and_self, if_true]
  congr 2
  unfold srtD
  refine List.mergeSort_of_pairwise (List.pairwise_map.mpr (h.imp fun {a b} hab => ?_))
  show (!PySem.W.dataLt _ _) = true
  rw [P_pair, P_pair]
  unfold pP
  rw [PySem.W.dataLt_ii, Bool.not_eq_true', decide_eq_false_iff_not]
  omega
def ixS (x : Str) : Nat := x.cps.toList.headD 0 - 97
def rnm (far times : Nat) (x : Str) : Str := ⟨#[97 + (times * ixS x + far) % 26]⟩
theorem abc_at2 (k : Fin 26) : (Str.ofString "abcdefghijklmnopqrstuvwxyz").cps.toList[k.1]? = some (97 + k.1) := by
  revert k; decide +kernel
theorem rnm_sg (far times : Nat) (x : Str) : Sg (rnm far times x) := ⟨97 + (times * ixS x + far) % 26, rfl, by omega, by omega⟩
theorem sg_ix {x : Str} (hx : Sg x) : x = ⟨#[97 + ixS x]⟩ ∧ ixS x < 26 := by
  obtain ⟨c, rfl, c1, c2⟩ := hx
  have : ixS ⟨#[c]⟩ = c - 97 := by unfold ixS; simp
  rw [this]
  exact ⟨by rw [show 97 + (c - 97) = c by omega], by omega⟩
theorem rnm_inj {far times : Nat} (ht : times ∈ [1, 3, 5, 7, 9, 11, 15, 17, 19, 21, 23, 25]) {x y : Str} (hx : Sg x) (hy : Sg y) (h : rnm far times x = rnm far times y) : x = y := by
  obtain ⟨x1, x2⟩ := sg_ix hx
  obtain ⟨y1, y2⟩ := sg_ix hy
  have e : (times * ixS x + far) % 26 = (times * ixS y + far) % 26 := by
    unfold rnm at h
    simp at h
    omega
  have : ixS x = ixS y := by
    simp at ht
    rcases ht with rfl | rfl | rfl | rfl | rfl | rfl | rfl | rfl | rfl | rfl | rfl | rfl <;> omega
  rw [x1, y1, this]
theorem map_inj_on {ρ : Str → Str} (h : ∀ x y, Sg x → Sg y → ρ x = ρ y → x = y) : ∀ {a b : List Str}, Tx a → Tx b → (a.map ρ = b.map ρ ↔ a = b)
  | [], [], _, _ => by simp
  | [], _ :: _, _, _ => by simp
  | _ :: _, [], _, _ => by simp
  | x :: a, y :: b, ha, hb => by
    have ih := map_inj_on h (a := a) (b := b) (fun z hz => ha z (List.mem_cons_of_mem _ hz)) (fun z hz => hb z (List.mem_cons_of_mem _ hz))
    rw [List.map_cons, List.map_cons, List.cons.injEq, List.cons.injEq, ih]
    exact ⟨fun ⟨p, q⟩ => ⟨h x y (ha x List.mem_cons_self) (hb y List.mem_cons_self) p, q⟩, fun ⟨p, q⟩ => ⟨by rw [p], q⟩⟩
section
variable {t w : List Str} {k : Nat}
theorem lies_map {ρ : Str → Str} (h : ∀ x y, Sg x → Sg y → ρ x = ρ y → x = y) (ht : Tx t) (hw : Tx w) : lies (t.map ρ) (w.map ρ) = lies t w := by
  unfold lies
  rw [List.length_map, List.length_map]
  refine List.filter_congr fun p _ => ?_
  rw [← List.map_drop, ← List.map_take, Bool.eq_iff_iff, decide_eq_true_iff, decide_eq_true_iff]
  exact map_inj_on h ((ht.drop p).take w.length) hw
theorem fC_map {ρ : Str → Str} (h : ∀ x y, Sg x → Sg y → ρ x = ρ y → x = y) (ht : Tx t) : fC (t.map ρ) k = fC t k := by
  funext j
  have e : pc (t.map ρ) k j = (pc t k j).map ρ := by unfold pc; rw [← List.map_drop, ← List.map_take]
  unfold fC nC
  rw [e, lies_map h ht (tx_pc ht k j), List.length_map, List.length_map]
theorem renamed_val (ht : Tx t) (hl : t.length ≤ 900) {far times : Nat} (hf : far < 26) (hm : times < 26) : F__law_renamed [dT t, .int (far : Int), .int (times : Int)] = .ok (dT (t.map (rnm far times))) (dT t) := by
  have lc := lc_pure (is := [4]) (tg := tgN 4) (t := tTrue) (fe := e2 gIx (eV 3) (e2 gMod (e2 gAdd (e2 gMul (eV 2) (eM "str" gSIndex (eV 3) (aCons (eV 4) aNil))) (eV 1)) (eC (.int 26)))) (e := [some (dT t), some (.int (far : Int)), some (.int (times : Int)), some (.str (Str.ofString "abcdefghijklmnopqrstuvwxyz")), none]) (φ := D.str) (p := fun _ => true) (g := fun x => D.str (rnm far times x)) t [] (by show 0 + _ ≤ 100000; omega)
    (fun x hx => ⟨_, [some (dT t), some (.int (far : Int)), some (.int (times : Int)), some (.str (Str.ofString "abcdefghijklmnopqrstuvwxyz")), some (.str x)], rfl, rfl, fun _ => ⟨[some (dT t), some (.int (far : Int)), some (.int (times : Int)), some (.str (Str.ofString "abcdefghijklmnopqrstuvwxyz")), some (.str x)], by
      obtain ⟨x1, x2⟩ := sg_ix (ht x hx)
      have a := abc_index ⟨ixS x, x2⟩
      have b := abc_at2 ⟨(times * ixS x + far) % 26, Nat.mod_lt _ (by decide)⟩
      have si : gSIndex (.str (Str.ofString "abcdefghijklmnopqrstuvwxyz")) [.str x] = some (.int ((ixS x : Nat) : Int)) := by
        unfold gSIndex
        rw [x1]
        have e2 : ixS ⟨#[97 + ixS x]⟩ = ixS x := by rw [← x1]
        simp only [e2]
        simp only [a]
      have mo : mulOk (times : Int) ((ixS x : Nat) : Int) = true := mulOk_small (by omega) (by omega)
      have me : ((times : Int) * ((ixS x : Nat) : Int) + (far : Int)) % 26 = (((times * ixS x + far) % 26 : Nat) : Int) := by
        rw [Int.natCast_emod]; simp
      have gi : gIx (.str (Str.ofString "abcdefghijklmnopqrstuvwxyz")) (.int (((times * ixS x + far) % 26 : Nat) : Int)) = some (.str (rnm far times x)) := by
        unfold gIx
        simp only []
        rw [if_pos (by decide +kernel), atI_eq, b]
        rfl
      generalize Str.ofString "abcdefghijklmnopqrstuvwxyz" = ABC at *
      generalize ixS x = ix at *
      simp [si, mo, me, gi, -gIx_s, -Int.natCast_emod], rfl⟩, fun h => by cases h⟩)
  rw [List.filter_eq_self.mpr (fun _ _ => rfl), List.nil_append] at lc
  have e : (t.map fun x => D.str (rnm far times x)) = (t.map (rnm far times)).map D.str := by rw [List.map_map]; rfl
  rw [e] at lc
  have fl := strs_all (t.map (rnm far times))
  simp only [F__law_renamed, r_runF, B__law_renamed]
  unfold dT at *
  generalize (t.map (rnm far times)).map D.str = E2 at *
  generalize t.map D.str = E1 at *
  generalize Str.ofString "abcdefghijklmnopqrstuvwxyz" = ABC at *
  have fl2 : (D.lst E2).flat = true := List.all_eq_true.mpr fl
  simp [lc]
  intro x hx h
  rw [fl x hx] at h; cases h
theorem fC_ge (k0 : 0 < k) {j : Nat} (hj : j + k ≤ t.length) : k ≤ fC t k j := by
  show k ≤ nC t (pc t k j)
  rw [nC_gs, pc_len hj]
  have m : j ∈ lies t (pc t k j) := by
    unfold lies
    rw [List.mem_filter, List.mem_range, pc_len hj]
    exact ⟨by omega, decide_eq_true rfl⟩
  rw [gs_zip k (fun h => by rw [h] at m; cases m)]
  omega
theorem mx_ge {j : Nat} (hj : j + k ≤ t.length) : fC t k j ≤ mx t k := bsF_ge (by omega)
theorem mx_at (k0 : 0 < k) (hk : k ≤ t.length) : ∃ j, j + k ≤ t.length ∧ (bsF (fC t k) (t.length + 1 - k)).2 = j ∧ fC t k j = mx t k ∧ k ≤ mx t k := by
  have h0 := mx_ge (t := t) (k := k) (j := 0) (by omega)
  have h1 := fC_ge (t := t) k0 (j := 0) (by omega)
  obtain ⟨a, b⟩ := bsF_at (f := fC t k) (i := t.length + 1 - k) (by show 0 < mx t k; omega)
  exact ⟨_, by omega, rfl, b, by omega⟩
theorem mx_le : mx t k ≤ t.length := (bsF_le _).1
theorem pc_rev {j : Nat} (hj : j + k ≤ t.length) : pc t.reverse k j = (pc t k (t.length - k - j)).reverse := by
  unfold pc
  rw [List.drop_reverse, List.take_reverse, List.drop_take, List.length_take]
  congr 2
  · omega
  · congr 1; omega
theorem mx_rev_le (k0 : 0 < k) (hk : k ≤ t.length) : mx t.reverse k ≤ mx t k := by
  obtain ⟨j, j1, _, j2, _⟩ := mx_at (t := t.reverse) k0 (by rw [List.length_reverse]; exact hk)
  rw [List.length_reverse] at j1
  rw [← j2]
  have e : fC t.reverse k j = fC t k (t.length - k - j) := by
    show nC t.reverse (pc t.reverse k j) = nC t (pc t k (t.length - k - j))
    rw [pc_rev j1, nC_rev]
    intro h
    have := pc_len (t := t) (l := k) (p := t.length - k - j) (by omega)
    rw [h] at this
    simp at this; omega
  rw [e]
  exact mx_ge (by omega)
theorem mx_rev (k0 : 0 < k) (hk : k ≤ t.length) : mx t.reverse k = mx t k := by
  apply Nat.le_antisymm (mx_rev_le k0 hk)
  have := mx_rev_le (t := t.reverse) k0 (by rw [List.length_reverse]; exact hk)
  rw [List.reverse_reverse] at this
  exact this
theorem best_full (t0 : t ≠ []) : bsF (fC t t.length) (t.length + 1 - t.length) = (t.length, 0) := by
  have p0 := List.length_pos_iff.mpr t0
  rw [show t.length + 1 - t.length = 0 + 1 by omega]
  have a := fC_ge (t := t) (k := t.length) p0 (j := 0) (by omega)
  have b : fC t t.length 0 ≤ t.length := nC_le
  show (if (bsF (fC t t.length) 0).1 < fC t t.length 0 then (fC t t.length 0, 0) else bsF (fC t t.length) 0) = _
  have z : (bsF (fC t t.length) 0).1 = 0 := rfl
  rw [if_pos (by omega)]
  congr 1
  omega
theorem mx_full (t0 : t ≠ []) : mx t t.length = t.length := by unfold mx; rw [best_full t0]
theorem mx_cov {c : Nat} (h : c ∈ covs t) : mx t c = t.length := by
  obtain ⟨h1, h2⟩ := List.mem_filter.mp h
  obtain ⟨c1, c2⟩ := List.mem_range'_1.mp h1
  have h2 : reach c 0 (lies t (t.take c)) = t.length := of_decide_eq_true h2
  have tl : (t.take c).length = c := by rw [List.length_take]; omega
  have ne : t.take c ≠ [] := fun z => by rw [z] at tl; simp at tl; omega
  have rb := (rns_bare (t := t) ne).2 (by rw [tl]; omega)
  have sm := rns_sum (t := t) (w := t.take c)
  rw [rb] at sm
  have s0 : smR [] = 0 := rfl
  have g := mx_ge (t := t) (k := c) (j := 0) (by omega)
  have e : fC t c 0 = nC t (t.take c) := rfl
  have := mx_le (t := t) (k := c)
  omega
theorem lf_spec (m : Nat) : ∀ s, 1 ≤ s → 1 ≤ lf t m s ∧ lf t m s ≤ s ∧ (∀ s', lf t m s ≤ s' → s' < s → m ≤ mx t s') ∧ (1 < lf t m s → ¬ m ≤ mx t (lf t m s - 1))
  | 1, _ => ⟨Nat.le_refl _, Nat.le_refl _, fun s' h1 h2 => by have h1 : 1 ≤ s' := h1; omega, fun h => absurd h (Nat.lt_irrefl 1)⟩
  | s + 2, _ => by
    have ih := lf_spec m (s + 1) (by omega)
    have un : lf t m (s + 2) = if m ≤ mx t (s + 1) then lf t m (s + 1) else s + 2 := rfl
    rw [un]
    by_cases c : m ≤ mx t (s + 1)
    · rw [if_pos c]
      refine ⟨ih.1, by omega, fun s' h1 h2 => ?_, ih.2.2.2⟩
      by_cases e : s' = s + 1
      · subst e; exact c
      · exact ih.2.2.1 s' h1 (by omega)
    · rw [if_neg c]
      exact ⟨by omega, Nat.le_refl _, fun s' h1 h2 => by omega, fun _ => c⟩
theorem lf_mono {m m' : Nat} (h : m' ≤ m) : ∀ s, lf t m' s ≤ lf t m s
  | 0 => Nat.le_refl _
  | 1 => Nat.le_refl _
  | s + 2 => by
    have ih := lf_mono h (s + 1)
    show (if m' ≤ mx t (s + 1) then lf t m' (s + 1) else s + 2) ≤ (if m ≤ mx t (s + 1) then lf t m (s + 1) else s + 2)
    by_cases c : m ≤ mx t (s + 1)
    · rw [if_pos c, if_pos (by omega)]; exact ih
    · rw [if_neg c]
      by_cases d : m' ≤ mx t (s + 1)
      · rw [if_pos d]
        have := (lf_spec (t := t) m' (s + 1) (by omega)).2.1
        omega
      · rw [if_neg d]; exact Nat.le_refl _
theorem lf_zero : ∀ s, 1 ≤ s → lf t 0 s = 1
  | 1, _ => rfl
  | s + 2, _ => by
    show (if 0 ≤ mx t (s + 1) then lf t 0 (s + 1) else s + 2) = 1
    rw [if_pos (Nat.zero_le _)]
    exact lf_zero (s + 1) (by omega)
end
end Ov
namespace Ov
open PySem (Str PyData)
open MV
theorem gEq_dP_nil (R : List (Nat × Nat)) : gEq (dP R) (.lst []) = some (.bl (decide (R = []))) := by
  obtain ⟨k, h1, _, h3⟩ := gEq_cases (lay_dP R) (lay_dP []) (by
    have P1 : ∀ R, (dP R).P = .list (R.map pP) := fun R => P_of (by rw [D.toP, toPs_pairs]; rfl)
    rw [P1, P1]
    cases R <;> simp [PySem.W.alike, PySem.W.alikeAll])
  have h1 : gEq (dP R) (.lst []) = some (.bl k) := h1
  rw [h1]
  congr 2
  by_cases c : R = []
  · subst c; rw [decide_eq_true rfl]; exact h3.mpr rfl
  · rw [decide_eq_false c]
    cases k with
    | false => rfl
    | true =>
      have := h3.mp rfl
      cases R with
      | nil => exact absurd rfl c
      | cons x r => cases this
def sc (f : Nat → Bool) : Nat → List (Nat × Nat)
  | 0 => []
  | i + 1 => if f i = true then sc f i else match (sc f i).getLast? with
    | some (a, b) => if b = i then (sc f i).dropLast ++ [(a, i + 1)] else sc f i ++ [(i, i + 1)]
    | none => [(i, i + 1)]
theorem sc_len (f : Nat → Bool) : ∀ i, (sc f i).length ≤ i
  | 0 => Nat.le_refl _
  | i + 1 => by
    have ih := sc_len f i
    unfold sc
    split
    · omega
    · split
      · rename_i a b h
        have : 0 < (sc f i).length := by
          cases q : sc f i with
          | nil => rw [q] at h; cases h
          | cons _ _ => simp
        split
        · rw [List.length_append, List.length_dropLast]; simp; omega
        · rw [List.length_append]; simp; omega
      · simp
section
variable {t w : List Str}
end
end Ov
namespace Ov
open PySem (Str PyData)
open MV
section
variable {t : List Str} {k m : Nat}
end
end Ov
namespace Ov
open PySem (Str PyData)
open MV
section
variable {t w : List Str}
theorem lay_hc (N : Nat) (R : List (Nat × Nat)) : Lay 64 (.tup [.int (N : Int), dP R]) := lay_tup (n := 63) fun d hd => by
  rcases List.mem_cons.mp hd with rfl | hd
  · exact lay_int _
  · rw [List.mem_singleton.mp hd]
    exact lay_lst (n := 62) fun x hx => by
      obtain ⟨p, _, rfl⟩ := List.mem_map.mp hx
      exact lay_pair (n := 61) p
end
end Ov
namespace Ov
open PySem (Str PyData)
open MV
theorem gNe_dP_nil (R : List (Nat × Nat)) : gNe (dP R) (.lst []) = some (.bl (!decide (R = []))) := by
  have h := gEq_dP_nil R
  unfold gEq at h
  unfold gNe
  cases q : deq (dP R) (.lst []) with
  | none => rw [q] at h; cases h
  | some b =>
    rw [q] at h
    have h : some (D.bl b) = _ := h
    cases h; rfl
section
variable {t w : List Str} {k m : Nat}
theorem lcR {R : List (Nat × Nat)} (hR : R.length ≤ 1000) (hlt : ∀ p ∈ R, p.1 < p.2) (x0 x1 x2 x3 x4 x5 x6 x7 x10 x11 : Option D) :
    lcGo [8, 9] (tgT [8, 9]) tTrue (e2 gSub (eV 9) (eV 8)) (R.map fun p : Nat × Nat => D.tup [.int (p.1 : Int), .int (p.2 : Int)]) [] [x0, x1, x2, x3, x4, x5, x6, x7, none, none, x10, x11] = .ok (R.map fun p : Nat × Nat => D.int ((p.2 - p.1 : Nat) : Int)) [x0, x1, x2, x3, x4, x5, x6, x7, none, none, x10, x11] := by
  have lc := lc_pure (is := [8, 9]) (tg := tgT [8, 9]) (t := tTrue) (fe := e2 gSub (eV 9) (eV 8)) (e := [x0, x1, x2, x3, x4, x5, x6, x7, none, none, x10, x11]) (φ := fun p : Nat × Nat => D.tup [.int (p.1 : Int), .int (p.2 : Int)]) (p := fun _ => true) (g := fun p : Nat × Nat => D.int ((p.2 - p.1 : Nat) : Int)) R [] (by show 0 + _ ≤ 100000; omega)
    (fun p hp => ⟨_, [x0, x1, x2, x3, x4, x5, x6, x7, some (.int (p.1 : Int)), some (.int (p.2 : Int)), x10, x11], rfl, rfl, fun _ => ⟨[x0, x1, x2, x3, x4, x5, x6, x7, some (.int (p.1 : Int)), some (.int (p.2 : Int)), x10, x11], by
      have := hlt p hp
      have e : (p.2 : Int) - (p.1 : Int) = ((p.2 - p.1 : Nat) : Int) := by omega
      simp [e], rfl⟩, fun h => by cases h⟩)
  rw [List.filter_eq_self.mpr (fun _ _ => rfl)] at lc
  exact lc
theorem lcM {R : List (Nat × Nat)} {n : Nat} (hR : R.length ≤ 1000) (hlt : ∀ p ∈ R, p.1 < p.2 ∧ p.2 ≤ n) (x0 x1 x2 x3 x4 x5 x6 x10 x11 : Option D) :
    lcGo [8, 9] (tgT [8, 9]) tTrue (eN gTupD (aCons (e2 gSub (eV 7) (eV 9)) (aCons (e2 gSub (eV 7) (eV 8)) aNil))) (R.map fun p : Nat × Nat => D.tup [.int (p.1 : Int), .int (p.2 : Int)]) [] [x0, x1, x2, x3, x4, x5, x6, some (.int (n : Int)), none, none, x10, x11] = .ok ((R.map (mir n)).map fun p : Nat × Nat => D.tup [.int (p.1 : Int), .int (p.2 : Int)]) [x0, x1, x2, x3, x4, x5, x6, some (.int (n : Int)), none, none, x10, x11] := by
  have z2 : (2 : Nat) ≤ PySem.sizeLine := by decide
  have lc := lc_pure (is := [8, 9]) (tg := tgT [8, 9]) (t := tTrue) (fe := eN gTupD (aCons (e2 gSub (eV 7) (eV 9)) (aCons (e2 gSub (eV 7) (eV 8)) aNil))) (e := [x0, x1, x2, x3, x4, x5, x6, some (.int (n : Int)), none, none, x10, x11]) (φ := fun p : Nat × Nat => D.tup [.int (p.1 : Int), .int (p.2 : Int)]) (p := fun _ => true) (g := fun p : Nat × Nat => D.tup [.int ((n - p.2 : Nat) : Int), .int ((n - p.1 : Nat) : Int)]) R [] (by show 0 + _ ≤ 100000; omega)
    (fun p hp => ⟨_, [x0, x1, x2, x3, x4, x5, x6, some (.int (n : Int)), some (.int (p.1 : Int)), some (.int (p.2 : Int)), x10, x11], rfl, rfl, fun _ => ⟨[x0, x1, x2, x3, x4, x5, x6, some (.int (n : Int)), some (.int (p.1 : Int)), some (.int (p.2 : Int)), x10, x11], by
      have := hlt p hp
      have e : (n : Int) - (p.1 : Int) = ((n - p.1 : Nat) : Int) := by omega
      have e' : (n : Int) - (p.2 : Int) = ((n - p.2 : Nat) : Int) := by omega
      simp [e, e', z2], rfl⟩, fun h => by cases h⟩)
  rw [List.filter_eq_self.mpr (fun _ _ => rfl)] at lc
  rw [List.map_map]
  exact lc
theorem zip_pairs (R : List (Nat × Nat)) : zipD (R.map fun p : Nat × Nat => D.tup [.int (p.1 : Int), .int (p.2 : Int)]) (cutA (R.map fun p : Nat × Nat => D.tup [.int (p.1 : Int), .int (p.2 : Int)]) (some 1) none) = (R.zip (R.drop 1)).map fun q => D.tup [.tup [.int (q.1.1 : Int), .int (q.1.2 : Int)], .tup [.int (q.2.1 : Int), .int (q.2.2 : Int)]] := by
  unfold zipD
  rw [cutA_map, show cutA R (some 1) none = R.drop 1 from cutA_from R 1, List.zip_map, List.map_map]
  rfl
theorem zip_apart : ∀ {R : List (Nat × Nat)}, R.Pairwise (fun x y => x.2 < y.1) → ∀ q ∈ R.zip (R.drop 1), q.1.2 < q.2.1
  | [], _, p, h => by cases h
  | [a], _, p, h => by cases h
  | a :: b :: r, hs, p, h => by
    rcases List.mem_cons.mp h with rfl | h
    · exact List.rel_of_pairwise_cons hs List.mem_cons_self
    · exact zip_apart (R := b :: r) (List.pairwise_cons.mp hs).2 p h
theorem lcZ {R : List (Nat × Nat)} (hR : R.length ≤ 1000) (ha : R.Pairwise fun x y => x.2 < y.1) (x0 x1 x2 x3 x4 x5 x6 x7 x8 x9 : Option D) :
    lcGo [10, 11] (tgT [10, 11]) (tB (e2 gGe (e2 gIx (eV 10) (eC (.int 1))) (e2 gIx (eV 11) (eC (.int 0))))) (eC (.int 1)) ((R.zip (R.drop 1)).map fun q => D.tup [.tup [.int (q.1.1 : Int), .int (q.1.2 : Int)], .tup [.int (q.2.1 : Int), .int (q.2.2 : Int)]]) [] [x0, x1, x2, x3, x4, x5, x6, x7, x8, x9, none, none] = .ok [] [x0, x1, x2, x3, x4, x5, x6, x7, x8, x9, none, none] := by
  have lc := lc_pure (is := [10, 11]) (tg := tgT [10, 11]) (t := tB (e2 gGe (e2 gIx (eV 10) (eC (.int 1))) (e2 gIx (eV 11) (eC (.int 0))))) (fe := eC (.int 1)) (e := [x0, x1, x2, x3, x4, x5, x6, x7, x8, x9, none, none]) (φ := fun q : (Nat × Nat) × (Nat × Nat) => D.tup [.tup [.int (q.1.1 : Int), .int (q.1.2 : Int)], .tup [.int (q.2.1 : Int), .int (q.2.2 : Int)]]) (p := fun _ => false) (g := fun _ => D.int 1) (R.zip (R.drop 1)) [] (by rw [List.length_zip]; show 0 + _ ≤ 100000; omega)
    (fun q hq => ⟨_, [x0, x1, x2, x3, x4, x5, x6, x7, x8, x9, some (.tup [.int (q.1.1 : Int), .int (q.1.2 : Int)]), some (.tup [.int (q.2.1 : Int), .int (q.2.2 : Int)])], rfl, by
      have lt := zip_apart ha q hq
      have c : ¬ (q.2.1 : Int) ≤ (q.1.2 : Int) := by omega
      have c' : ¬ q.2.1 ≤ q.1.2 := by omega
      simp [c, c', lt], (fun h => by cases h), fun _ => rfl⟩)
  rw [filter_no] at lc
  exact lc
theorem word_right_ok (ht : Tx t) (hw : Tx w) (t0 : t ≠ []) (w0 : w ≠ []) (hl : t.length ≤ 300) (hl2 : w.length ≤ 300) : ∃ io, F__law_word_right_v2 [dT t, dT w] = .ok (.bl true) io := by
  have hv := how_covered_val ht hw w0 (by omega) (by omega)
  have hr := how_covered_val (t := t.reverse) (w := w.reverse) (fun x hx => ht x (List.mem_reverse.mp hx)) (fun x hx => hw x (List.mem_reverse.mp hx)) (by simp [w0]) (by rw [List.length_reverse]; omega) (by rw [List.length_reverse]; omega)
  unfold hcD at hv hr
  rw [nC_rev w0, rns_rev w0] at hr
  have cv := covered_val ht hw t0 w0 (by omega) (by omega)
  have rl : (rns t w).length ≤ 1000 := by
    have := rn_len w.length (lies t w ++ [t.length]) 0
    have := lies_len t w
    rw [List.length_append] at *
    show (rn w.length 0 (lies t w ++ [t.length])).length ≤ 1000
    simp at *; omega
  have rin := rns_in (t := t) (w := w)
  have rap := rns_apart (t := t) w0
  have rsm := rns_sum (t := t) (w := w)
  have srt := sort_dP (R := rns t w) (rap.imp_of_mem fun {a b} ha _ h => by have := rin a ha; omega)
  have nself := gNe_self (lay_dP (rns t w))
  have en := gEq_dP_nil (rns t w)
  have nn := gNe_dP_nil (rns t w)
  have eself := gEq_self (lay_hc (nC t w) ((rns t w).map (mir t.length)).reverse)
  obtain ⟨b1, b2⟩ := rns_bare (t := t) w0
  have l1 := lcR rl fun p hp => (rin p hp).1
  have l2 := lcM (n := t.length) rl rin
  have l3 := lcZ rl rap
  have zp := zip_pairs (rns t w)
  have gsm := gSum_dN ((rns t w).map fun p => p.2 - p.1)
  unfold dN at gsm
  rw [List.map_map] at gsm
  have gsm : gSum [.lst ((rns t w).map fun p : Nat × Nat => D.int ((p.2 - p.1 : Nat) : Int))] = some (.int ((smR (rns t w) : Nat) : Int)) := gsm
  have nI : ((nC t w : Nat) : Int) + ((smR (rns t w) : Nat) : Int) = (t.length : Int) := by omega
  have n3 : gNe (.int (t.length : Int)) (.int (t.length : Int)) = some (.bl false) := by simp
  have rv : gRev (.lst (((rns t w).map (mir t.length)).map fun p : Nat × Nat => D.tup [.int (p.1 : Int), .int (p.2 : Int)])) = some (dP ((rns t w).map (mir t.length)).reverse) := by
    show some (D.lst _) = some (D.lst _)
    rw [List.map_reverse]
  have g1 : gRev (dT t) = some (dT t.reverse) := by
    show some (D.lst _) = some (D.lst _)
    rw [List.map_reverse]
  have g2 : gRev (dT w) = some (dT w.reverse) := by
    show some (D.lst _) = some (D.lst _)
    rw [List.map_reverse]
  have z2 : (2 : Nat) ≤ PySem.sizeLine := by decide
  have c1 : gEq (.str (Str.ofString "bare")) (.str (Str.ofString "covers")) = some (.bl false) := by
    show some (D.bl (decide (Str.ofString "bare" = Str.ofString "covers"))) = _
    rw [decide_eq_false (by decide +kernel)]
  have c2 : gEq (.str (Str.ofString "covers")) (.str (Str.ofString "covers")) = some (.bl true) := by simp
  have nb0 : gNe (.bl false) (.bl false) = some (.bl false) := gNe_self (lay_bl _)
  have nb1 : gNe (.bl true) (.bl true) = some (.bl false) := gNe_self (lay_bl _)
  have tl : gLen [dT t] = some (.int (t.length : Int)) := by simp
  refine ⟨dT t, ?_⟩
  by_cases c : reach w.length 0 (lies t w) < t.length
  · obtain ⟨b, r, hR⟩ := b1 c
    rw [if_pos c] at cv
    have Rne : rns t w ≠ [] := by rw [hR]; simp
    rw [decide_eq_false Rne] at en nn
    have a0 : L2.atI ((rns t w).map fun p : Nat × Nat => D.tup [.int (p.1 : Int), .int (p.2 : Int)]) 0 = some (.tup [.int ((reach w.length 0 (lies t w) : Nat) : Int), .int (b : Int)]) := by
      rw [hR, List.map_cons, atI0]
    have nb : gNe (.tup [.str (Str.ofString "bare"), .int ((reach w.length 0 (lies t w) : Nat) : Int)]) (.tup [.str (Str.ofString "bare"), .int ((reach w.length 0 (lies t w) : Nat) : Int)]) = some (.bl false) := gNe_self (lay_tup (n := 63) fun x hx => by
      rcases List.mem_cons.mp hx with rfl | hx
      · exact lay_str ok_bare
      · rw [List.mem_singleton.mp hx]; exact lay_int _)
    have fb : F__law_first_bare [dT t, dT w] = .ok (.int ((reach w.length 0 (lies t w) : Nat) : Int)) (dT t) := by
      simp only [F__law_first_bare, r_runF, B__law_first_bare]
      unfold dP at *
      generalize (rns t w).map (fun p : Nat × Nat => D.tup [.int (p.1 : Int), .int (p.2 : Int)]) = RR at *
      generalize dT t = T at *
      generalize dT w = WW at *
      simp [hv, a0]
    simp only [F__law_word_right_v2, r_runF, B__law_word_right_v2]
    generalize reach w.length 0 (lies t w) = rc at *
    generalize dP ((rns t w).map (mir t.length)).reverse = R3 at *
    generalize ((rns t w).map (mir t.length)).map (fun p : Nat × Nat => D.tup [.int (p.1 : Int), .int (p.2 : Int)]) = R2 at *
    generalize ((rns t w).map fun p : Nat × Nat => D.int ((p.2 - p.1 : Nat) : Int)) = R4 at *
    generalize smR (rns t w) = S at *
    generalize ((rns t w).zip ((rns t w).drop 1)).map (fun q => D.tup [.tup [.int (q.1.1 : Int), .int (q.1.2 : Int)], .tup [.int (q.2.1 : Int), .int (q.2.2 : Int)]]) = R5 at *
    generalize nC t w = N at *
    generalize ht' : t.length = n at *
    unfold dP at *
    generalize (rns t w).map (fun p : Nat × Nat => D.tup [.int (p.1 : Int), .int (p.2 : Int)]) = RR at *
    generalize dT t.reverse = T2 at *
    generalize dT w.reverse = W2 at *
    generalize Str.ofString "bare" = sb at *
    generalize Str.ofString "covers" = sc at *
    generalize dT t = T at *
    generalize dT w = WW at *
    simp [hv, hr, cv, l1, l2, l3, zp, gsm, nI, n3, srt, nself, en, nn, c1, nb, nb0, fb, rv, g1, g2, eself, tl, z2, hsz0, -gRev_l]
  · have hR := b2 c
    rw [if_neg c] at cv
    rw [decide_eq_true hR] at en nn
    simp only [F__law_word_right_v2, r_runF, B__law_word_right_v2]
    generalize dP ((rns t w).map (mir t.length)).reverse = R3 at *
    generalize ((rns t w).map (mir t.length)).map (fun p : Nat × Nat => D.tup [.int (p.1 : Int), .int (p.2 : Int)]) = R2 at *
    generalize ((rns t w).map fun p : Nat × Nat => D.int ((p.2 - p.1 : Nat) : Int)) = R4 at *
    generalize smR (rns t w) = S at *
    generalize ((rns t w).zip ((rns t w).drop 1)).map (fun q => D.tup [.tup [.int (q.1.1 : Int), .int (q.1.2 : Int)], .tup [.int (q.2.1 : Int), .int (q.2.2 : Int)]]) = R5 at *
    generalize nC t w = N at *
    generalize ht' : t.length = n at *
    unfold dP at *
    generalize (rns t w).map (fun p : Nat × Nat => D.tup [.int (p.1 : Int), .int (p.2 : Int)]) = RR at *
    generalize dN (lies t w) = LL at *
    generalize dT t.reverse = T2 at *
    generalize dT w.reverse = W2 at *
    generalize Str.ofString "bare" = sb at *
    generalize Str.ofString "covers" = sc at *
    generalize dT t = T at *
    generalize dT w = WW at *
    simp [hv, hr, cv, l1, l2, l3, zp, gsm, nI, n3, srt, nself, en, nn, c2, nb1, rv, g1, g2, eself, tl, z2, hsz0, -gRev_l]
end
end Ov
namespace Ov
open PySem (Str PyData)
open MV
section
variable {t w : List Str} {k m : Nat}
theorem nC_mx (hw : w.length = k) : nC t w ≤ mx t k := by
  by_cases e : lies t w = []
  · rw [nC_gs, e]; exact Nat.zero_le _
  · obtain ⟨p, hp⟩ := List.exists_mem_of_ne_nil _ e
    have lt := lies_lt hp
    have h1 : pc t k p = w := by
      have := (List.mem_filter.mp hp).2
      have := of_decide_eq_true this
      rw [hw] at this
      exact this
    have := mx_ge (t := t) (k := k) (j := p) (by omega)
    unfold fC at this
    rw [h1] at this
    exact this
theorem piece_right_ok (ht : Tx t) (hw : Tx w) (w0 : w ≠ []) (hl : t.length ≤ 300) (hl2 : w.length ≤ 300) (k0 : 0 < k) (hk : k ≤ t.length) {h : List Int} (hh : Dk h) : ∃ h', Dk h' ∧ F__law_piece_right [dI h, dT t, dT w, .int (k : Int)] = .ok (.bl true) (dI h') := by
  obtain ⟨P, p1, p2, p3, p4⟩ := mx_at (t := t) k0 hk
  have mc := most_covering_val ht (by omega) k0 hk
  have tp := tx_pc ht k P
  have pl := pc_len (t := t) (l := k) (p := P) p1
  have pne : pc t k P ≠ [] := fun z => by rw [z] at pl; simp at pl; omega
  have hv := how_covered_val ht tp pne (by omega) (by omega)
  have e1 : nC t (pc t k P) = mx t k := p3
  unfold hcD at hv
  rw [e1] at hv
  have hvw := how_covered_val ht hw w0 (by omega) (by omega)
  unfold hcD at hvw
  have cm : cutA t (some (P : Int)) (some ((P : Int) + (k : Int))) = pc t k P := cutA_mid2 t P k
  obtain ⟨far, h1, a1, a2, a3⟩ := dk_nat (m := 26) hh (by decide)
  have a1 : F__law_take_v3 [dI h, .int 26] = .ok (.int far) (dI h1) := a1
  obtain ⟨r2, h2, b1, b2, b3⟩ := dk_nat (m := 12) a3 (by decide)
  have b1 : F__law_take_v3 [dI h1, .int 12] = .ok (.int r2) (dI h2) := b1
  obtain ⟨st, s1, s2⟩ : ∃ st : Nat, L2.atI [D.int 1, .int 3, .int 5, .int 7, .int 9, .int 11, .int 15, .int 17, .int 19, .int 21, .int 23, .int 25] (r2 : Int) = some (.int st) ∧ st ∈ [1, 3, 5, 7, 9, 11, 15, 17, 19, 21, 23, 25] := by
    rw [atI_eq]
    match r2, b2 with
    | 0, _ => exact ⟨1, rfl, by decide⟩
    | 1, _ => exact ⟨3, rfl, by decide⟩
    | 2, _ => exact ⟨5, rfl, by decide⟩
    | 3, _ => exact ⟨7, rfl, by decide⟩
    | 4, _ => exact ⟨9, rfl, by decide⟩
    | 5, _ => exact ⟨11, rfl, by decide⟩
    | 6, _ => exact ⟨15, rfl, by decide⟩
    | 7, _ => exact ⟨17, rfl, by decide⟩
    | 8, _ => exact ⟨19, rfl, by decide⟩
    | 9, _ => exact ⟨21, rfl, by decide⟩
    | 10, _ => exact ⟨23, rfl, by decide⟩
    | 11, _ => exact ⟨25, rfl, by decide⟩
  have st26 : st < 26 := by simp at s2; omega
  have rv := renamed_val ht (by omega) a2 st26
  have mr := most_covering_val (t := t.map (rnm far st)) (k := k) (fun x hx => by obtain ⟨y, _, rfl⟩ := List.mem_map.mp hx; exact rnm_sg _ _ _) (by rw [List.length_map]; omega) k0 (by rw [List.length_map]; exact hk)
  rw [fC_map (fun x y hx hy => rnm_inj s2 hx hy) ht, List.length_map] at mr
  have mb := most_covering_val (t := t.reverse) (k := k) (fun x hx => ht x (List.mem_reverse.mp hx)) (by rw [List.length_reverse]; omega) k0 (by rw [List.length_reverse]; exact hk)
  have mbe : (bsF (fC t.reverse k) (t.reverse.length + 1 - k)).1 = mx t k := mx_rev k0 hk
  have pe : bsF (fC t k) (t.length + 1 - k) = (mx t k, P) := by
    rw [← p2]; rfl
  obtain ⟨at', h3, c1, c2, c3⟩ := dk_nat (m := t.length - k + 1) b3 (by omega)
  have c1 : F__law_take_v3 [dI h2, .int ((t.length : Int) - (k : Int) + 1)] = .ok (.int at') (dI h3) := by
    rw [show (t.length : Int) - (k : Int) + 1 = ((t.length - k + 1 : Nat) : Int) by omega]; exact c1
  have cm2 : cutA t (some (at' : Int)) (some ((at' : Int) + (k : Int))) = pc t k at' := cutA_mid2 t at' k
  have pl2 := pc_len (t := t) (l := k) (p := at') (by omega)
  have hv2 := how_covered_val ht (tx_pc ht k at') (fun z => by rw [z] at pl2; simp at pl2; omega) (by omega) (by omega)
  have e2 : nC t (pc t k at') ≤ mx t k := mx_ge (t := t) (k := k) (j := at') (by omega)
  unfold hcD at hv2
  rw [pe] at mc mr
  have nself := gNe_self (lay_pr (mx t k, P))
  have g1 : gRev (dT t) = some (dT t.reverse) := by
    show some (D.lst _) = some (D.lst _)
    rw [List.map_reverse]
  have n3 : gNe (.int ((mx t k : Nat) : Int)) (.int ((mx t k : Nat) : Int)) = some (.bl false) := by simp
  have km : ¬ ((mx t k : Nat) : Int) < (k : Int) := by omega
  have km' : ¬ mx t k < k := by omega
  have e2' : ((nC t (pc t k at') : Nat) : Int) ≤ ((mx t k : Nat) : Int) := by omega
  have z2 : (2 : Nat) ≤ PySem.sizeLine := by decide
  have z12 : (12 : Nat) ≤ PySem.sizeLine := by decide
  have al : ∀ h : List Int, (h.map D.int).all D.sc = true := fun h => all_ints _
  have wk : w.length = k → ¬ ((mx t k : Nat) : Int) < ((nC t w : Nat) : Int) ∧ ¬ mx t k < nC t w := fun e => by
    have := nC_mx (t := t) e
    omega
  refine ⟨h3, c3, ?_⟩
  unfold prD at mc mr mb nself
  rw [mbe] at mb
  simp only [F__law_piece_right, r_runF, B__law_piece_right]
  generalize dP (rns t (pc t k P)) = R1 at *
  generalize dP (rns t (pc t k at')) = R2 at *
  generalize dP (rns t w) = R3 at *
  generalize nC t (pc t k at') = N2 at *
  generalize nC t w = N3 at *
  generalize mx t k = M at *
  generalize (bsF (fC t.reverse k) (t.reverse.length + 1 - k)).2 = P2 at *
  generalize dT t.reverse = TR at *
  generalize dT (t.map (rnm far st)) = TM at *
  generalize pc t k P = u1 at *
  generalize pc t k at' = u2 at *
  have ml : (w.length = k) ∨ ¬ (w.length = k) := by omega
  rcases ml with e | e
  · obtain ⟨q1, q2⟩ := wk e
    have e' : (w.length : Int) = (k : Int) := by omega
    simp [mc, cutA_map, cm, hv, n3, km, km', hvw, e, e', q1, q2, a1, b1, List.all_map, s1, rv, mr, nself, g1, mb, c1, cm2, hv2, e2, e2', z2, z12, -gRev_l]
  · have e' : ¬ (w.length : Int) = (k : Int) := by omega
    simp [mc, cutA_map, cm, hv, n3, km, km', hvw, e, e', a1, b1, List.all_map, s1, rv, mr, nself, g1, mb, c1, cm2, hv2, e2, e2', z2, z12, -gRev_l]
theorem lengths_right_ok (ht : Tx t) (t0 : t ≠ []) (hl : t.length ≤ 300) (hm : m ≤ t.length) : ∃ io, F__law_lengths_right [dT t, .int (m : Int)] = .ok (.bl true) io := by
  have p0 := List.length_pos_iff.mpr t0
  obtain ⟨s1, s2, s3, s4⟩ := lf_spec (t := t) m t.length (by omega)
  have lv := length_for_val (m := m) ht t0 (by omega) hm
  have lm := lf_mono (t := t) (m := m) (m' := m - 1) (by omega) t.length
  have lv2 := length_for_val (m := m - 1) ht t0 (by omega) (by omega)
  have ac := all_covers_val ht t0 (by omega)
  have fm := mx_full t0
  generalize lf t m t.length = s at *
  generalize lf t (m - 1) t.length = s' at *
  have r1 : gR2 [.int 1, .int ((t.length : Int) + 1)] = some ((List.range' 1 t.length).map fun k : Nat => D.int (k : Int)) := by
    rw [gR2_i, small_of (i := 1) (by decide) (by decide), small_of (by omega) (by omega)]
    show some (rngD ((1 : Nat) : Int) _) = _
    rw [rngN, show ((t.length : Int) + 1 - 1).toNat = t.length by omega]
  have tops := lc_nat (is := [4]) (tg := tgN 4) (t := tTrue) (fe := e2 gIx (eCall F_most_covering (aCons (eV 0) (aCons (eV 4) aNil))) (eC (.int 0))) (e := [some (dT t), some (.int (m : Int)), some (.int (s : Int)), none, none]) (fun _ => true) (fun k => .int ((mx t k : Nat) : Int)) (List.range' 1 t.length) (by rw [List.length_range']; show _ ≤ 100000; omega)
    (fun k hk => by
      obtain ⟨k1, k2⟩ := List.mem_range'_1.mp hk
      have mc := most_covering_val (k := k) ht (by omega) (by omega) (by omega)
      have me : (bsF (fC t k) (t.length + 1 - k)).1 = mx t k := rfl
      unfold prD at mc
      rw [me] at mc
      refine ⟨_, [some (dT t), some (.int (m : Int)), some (.int (s : Int)), none, some (.int (k : Int))], rfl, rfl, fun _ => ⟨[some (dT t), some (.int (m : Int)), some (.int (s : Int)), none, some (.int (k : Int))], ?_, rfl⟩, fun h => by cases h⟩
      generalize mx t k = M at *
      simp [mc])
  rw [List.filter_eq_self.mpr (fun _ _ => rfl)] at tops
  have at1 : ∀ c : Nat, 1 ≤ c → c ≤ t.length → L2.atI ((List.range' 1 t.length).map fun k : Nat => D.int ((mx t k : Nat) : Int)) ((c : Int) - 1) = some (.int ((mx t c : Nat) : Int)) := fun c h1 h2 => by
    rw [show (c : Int) - 1 = ((c - 1 : Nat) : Int) by omega, atI_eq, List.getElem?_map, List.getElem?_range' (by omega)]
    show some (D.int ((mx t (1 + 1 * (c - 1)) : Nat) : Int)) = _
    rw [show 1 + 1 * (c - 1) = c by omega]
  have lst : L2.atI ((List.range' 1 t.length).map fun k : Nat => D.int ((mx t k : Nat) : Int)) (-1) = some (.int (t.length : Int)) := by
    rw [atI_neg1, List.getLast?_eq_getElem?, List.length_map, List.length_range', List.getElem?_map, List.getElem?_range' (by omega)]
    show some (D.int ((mx t (1 + 1 * (t.length - 1)) : Nat) : Int)) = _
    rw [show 1 + 1 * (t.length - 1) = t.length by omega, fm]
  have cut : cutA ((List.range' 1 t.length).map fun k : Nat => D.int ((mx t k : Nat) : Int)) (some ((s : Int) - 1)) none = ((List.range' 1 t.length).drop (s - 1)).map fun k : Nat => D.int ((mx t k : Nat) : Int) := by
    rw [cutA_map, show (s : Int) - 1 = ((s - 1 : Nat) : Int) by omega, cutA_from]
  have c3 := fun (x3 : Option D) => lc_pure (is := [4]) (tg := tgN 4) (t := tB (e2 gLt (eV 4) (eV 1))) (fe := eV 4) (e := [some (dT t), some (.int (m : Int)), some (.int (s : Int)), x3, none]) (φ := fun k : Nat => D.int ((mx t k : Nat) : Int)) (p := fun _ => false) (g := fun k : Nat => D.int ((mx t k : Nat) : Int)) ((List.range' 1 t.length).drop (s - 1)) [] (by rw [List.length_drop, List.length_range']; show 0 + _ ≤ 100000; omega)
    (fun k hk => by
      obtain ⟨i, hi⟩ := List.getElem?_of_mem hk
      rw [List.getElem?_drop] at hi
      have il := (List.getElem?_eq_some_iff.mp hi).1
      rw [List.length_range'] at il
      rw [List.getElem?_range' il] at hi
      have hi := Option.some.inj hi
      have ge : m ≤ mx t k := by
        by_cases e : k = t.length
        · rw [e, fm]; exact hm
        · exact s3 k (by omega) (by omega)
      refine ⟨_, [some (dT t), some (.int (m : Int)), some (.int (s : Int)), x3, some (.int ((mx t k : Nat) : Int))], rfl, ?_, (fun h => by cases h), fun _ => rfl⟩
      generalize mx t k = M at *
      have ge' : ¬ (M : Int) < (m : Int) := by omega
      have ge'' : ¬ M < m := by omega
      simp [ge, ge', ge''])
  rw [filter_no] at c3
  have c4 : lcGo [4] (tgN 4) (tB (e2 gLt (e2 gIx (eV 3) (e2 gSub (eV 4) (eC (.int 1)))) (eN gLen (aCons (eV 0) aNil)))) (eV 4) ((covs t).map fun k : Nat => D.int (k : Int)) [] [some (dT t), some (.int (m : Int)), some (.int (s : Int)), some (.lst ((List.range' 1 t.length).map fun k : Nat => D.int ((mx t k : Nat) : Int))), none] = .ok [] [some (dT t), some (.int (m : Int)), some (.int (s : Int)), some (.lst ((List.range' 1 t.length).map fun k : Nat => D.int ((mx t k : Nat) : Int))), none] := by
    have := lc_nat (is := [4]) (tg := tgN 4) (t := tB (e2 gLt (e2 gIx (eV 3) (e2 gSub (eV 4) (eC (.int 1)))) (eN gLen (aCons (eV 0) aNil)))) (fe := eV 4) (e := [some (dT t), some (.int (m : Int)), some (.int (s : Int)), some (.lst ((List.range' 1 t.length).map fun k : Nat => D.int ((mx t k : Nat) : Int))), none]) (fun _ => false) (fun k => .int (k : Int)) (covs t) (by unfold covs; refine Nat.le_trans (List.length_filter_le _ _) ?_; rw [List.length_range']; show _ ≤ 100000; omega)
      (fun c hc => by
        obtain ⟨q1, q2⟩ := List.mem_range'_1.mp (List.mem_filter.mp hc).1
        have a1 := at1 c q1 (by omega)
        rw [mx_cov hc] at a1
        refine ⟨_, [some (dT t), some (.int (m : Int)), some (.int (s : Int)), some (.lst ((List.range' 1 t.length).map fun k : Nat => D.int ((mx t k : Nat) : Int))), some (.int (c : Int))], rfl, ?_, (fun h => by cases h), fun _ => rfl⟩
        generalize ((List.range' 1 t.length).map fun k : Nat => D.int ((mx t k : Nat) : Int)) = TT at *
        simp [a1])
    rw [filter_no] at this
    exact this
  have n3 : gNe (.int (t.length : Int)) (.int (t.length : Int)) = some (.bl false) := by simp
  have ls' : ¬ (s : Int) < (s' : Int) := by omega
  have ls'' : ¬ s < s' := by omega
  refine ⟨dT t, ?_⟩
  simp only [F__law_lengths_right, r_runF, B__law_lengths_right]
  have a2 : 1 < s → L2.atI ((List.range' 1 t.length).map fun k : Nat => D.int ((mx t k : Nat) : Int)) ((s : Int) - 2) = some (.int ((mx t (s - 1) : Nat) : Int)) := fun h => by
    have := at1 (s - 1) (by omega) (by omega)
    rw [show ((s - 1 : Nat) : Int) - 1 = (s : Int) - 2 by omega] at this
    exact this
  have tl : ((List.range' 1 t.length).map fun k : Nat => D.int ((mx t k : Nat) : Int)).length ≤ LIM := by rw [List.length_map, List.length_range']; show _ ≤ 100000; omega
  have s1' : 1 < s → ¬ (m : Int) ≤ ((mx t (s - 1) : Nat) : Int) ∧ ¬ m ≤ mx t (s - 1) := fun h => by
    have := s4 h
    omega
  have lv2' : 0 < m → F_length_for [dT t, .int ((m : Int) - 1)] = .ok (.int ((s' : Nat) : Int)) (dT t) := fun h => by
    rw [show (m : Int) - 1 = ((m - 1 : Nat) : Int) by omega]; exact lv2
  clear lv2
  have gl : gLen [dT t] = some (.int (t.length : Int)) := by simp
  unfold dN at ac
  generalize mx t (s - 1) = M1 at *
  generalize ((List.range' 1 t.length).drop (s - 1)).map (fun k : Nat => D.int ((mx t k : Nat) : Int)) = TD at *
  generalize ((List.range' 1 t.length).map fun k : Nat => D.int ((mx t k : Nat) : Int)) = TT at *
  generalize ((List.range' 1 t.length).map fun k : Nat => D.int (k : Int)) = RR at *
  generalize ((covs t).map fun k : Nat => D.int (k : Int)) = CC at *
  generalize dT t = T at *
  by_cases h1 : 1 < s
  · obtain ⟨q1, q2⟩ := s1' h1
    have a2 := a2 h1
    have h1' : (1 : Int) < (s : Int) := by omega
    have h2 : 0 < m := by omega
    have h2' : (0 : Int) < (m : Int) := by omega
    have lv2 := lv2' h2
    simp [lv, r1, tops, cut, c3, hsz0, h1, h1', a2, q1, q2, h2, h2', lv2, ls', ls'', lst, n3, ac, c4, tl, gl, -gR2_i]
  · have h1' : ¬ (1 : Int) < (s : Int) := by omega
    by_cases h2 : 0 < m
    · have h2' : (0 : Int) < (m : Int) := by omega
      have lv2 := lv2' h2
      simp [lv, r1, tops, cut, c3, hsz0, h1, h1', h2, h2', lv2, ls', ls'', lst, n3, ac, c4, tl, gl, -gR2_i]
    · have h2' : ¬ (0 : Int) < (m : Int) := by omega
      simp [lv, r1, tops, cut, c3, hsz0, h1, h1', h2, h2', ls', ls'', lst, n3, ac, c4, tl, gl, -gR2_i]
end
end Ov
namespace Ov
open PySem (Str PyData)
open MV
section
variable {t w : List Str} {k : Nat}
theorem k27_one (ht : Tx t) (hw : Tx w) (w0 : w ≠ []) (hl : t.length ≤ 200) (hl2 : w.length ≤ 200) (k0 : 0 < k) (hk : k ≤ t.length) {h : List Int} (hh : Dk h) {x0 x1 x5 : Option D} :
    ∃ h', Dk h' ∧ B_law_k27_l1 [x0, x1, some (dI h), some (dT t), some (dT w), x5, some (.int (k : Int))] = .ok .nx [x0, x1, some (dI h'), some (dT t), some (dT w), x5, some (.int (k : Int))] := by
  obtain ⟨h', a, b⟩ := piece_right_ok ht hw w0 (by omega) (by omega) k0 hk hh
  refine ⟨h', a, ?_⟩
  simp [B_law_k27_l1, b, List.all_map]
theorem k27_cell {q : D} {c : Int} {xs : List (Option D)} (hx : xs.length = 5) : ∃ ys, ys.length = 5 ∧ B_law_k27_l2 (some q :: some (.int c) :: xs) = .ok .nx (some q :: some (.int c) :: ys) := by
  match xs, hx with
  | [x2, x3, x4, x5, x6], _ =>
  obtain ⟨h, io, a1, a2⟩ := deck_ok c
  obtain ⟨t, w, h1, b1, b2, b3, b4, b5, b6, b7, b8⟩ := dpair_ok a2 true
  have z2 : (2 : Nat) ≤ PySem.sizeLine := by decide
  have z4 : (4 : Nat) ≤ PySem.sizeLine := by decide
  have t0 := List.length_pos_iff.mpr b3
  have w0 := List.length_pos_iff.mpr b6
  obtain ⟨r1, h2, d1, d2, d3⟩ := dk_nat (m := t.length) b8 t0
  obtain ⟨io1, wr1⟩ := word_right_ok b2 b5 b3 b6 (by omega) (by omega)
  have c3 : cutA t none (some (3 : Int)) = t.take 3 := cutA_to t 3
  have t3 : t.take 3 ≠ [] := fun z => by
    have h1 : (t.take 3).length = 0 := by rw [z]; rfl
    rw [List.length_take] at h1; omega
  obtain ⟨io2, wr2⟩ := word_right_ok b2 (b2.take 3) b3 t3 (by omega) (by rw [List.length_take]; omega)
  obtain ⟨h3, g1, o1⟩ := k27_one (k := 1 + r1) b2 b5 b6 b4 (by omega) (by omega) (by omega) d3 (x0 := some q) (x1 := some (.int c)) (x5 := some (.int (((1 + r1 : Nat)) : Int)))
  obtain ⟨h4, g2, o2⟩ := k27_one (k := min w.length t.length) b2 b5 b6 b4 (by omega) (by omega) (by omega) g1 (x0 := some q) (x1 := some (.int c)) (x5 := some (.int (((1 + r1 : Nat)) : Int)))
  have lp : sForL (tgN 6) B_law_k27_l1 [.int (((1 + r1 : Nat)) : Int), .int ((min w.length t.length : Nat) : Int)] [some q, some (.int c), some (dI h2), some (dT t), some (dT w), some (.int (((1 + r1 : Nat)) : Int)), x6] = .ok .nx [some q, some (.int c), some (dI h4), some (dT t), some (dT w), some (.int (((1 + r1 : Nat)) : Int)), some (.int ((min w.length t.length : Nat) : Int))] := by
    rw [for_step rfl o1, for_step rfl o2]
    rfl
  have mn : gMin2 [.int (w.length : Int), .int (t.length : Int)] = some (.int ((min w.length t.length : Nat) : Int)) := by
    rw [gMin2_i]
    congr 2
    by_cases c : (t.length : Int) < (w.length : Int)
    · rw [if_pos c]; omega
    · rw [if_neg c]; omega
  have mc := most_covering_val (k := t.length) b2 (by omega) t0 (Nat.le_refl _)
  rw [best_full b3] at mc
  have ns := gNe_self (lay_pr (t.length, 0))
  unfold prD at mc ns
  have lz := length_for_val (m := 0) b2 b3 (by omega) (Nat.zero_le _)
  rw [lf_zero _ t0] at lz
  obtain ⟨r4, h5, e1, e2', e3⟩ := dk_nat (m := 4) g2 (by decide)
  have e1 : F__law_take_v3 [dI h4, .int 4] = .ok (.int r4) (dI h5) := e1
  obtain ⟨pk, s1, s2⟩ : ∃ pk : Nat, L2.atI [D.int 40, .int 40, .int 40, .int 120] (r4 : Int) = some (.int pk) ∧ 0 < pk := by
    rw [atI_eq]
    match r4, e2' with
    | 0, _ => exact ⟨40, rfl, by decide⟩
    | 1, _ => exact ⟨40, rfl, by decide⟩
    | 2, _ => exact ⟨40, rfl, by decide⟩
    | 3, _ => exact ⟨120, rfl, by decide⟩
  have ck : cutA t none (some (pk : Int)) = t.take pk := cutA_to t pk
  have tu := b2.take pk
  have ul : (t.take pk).length ≤ 200 := by rw [List.length_take]; omega
  have u0 : t.take pk ≠ [] := fun z => by
    have h1 : (t.take pk).length = 0 := by rw [z]; rfl
    rw [List.length_take] at h1; omega
  generalize hu : t.take pk = u at *
  obtain ⟨r6, h6, f1, f2, f3⟩ := dk_nat (m := u.length + 1) e3 (by omega)
  have f1 : F__law_take_v3 [dI h5, .int ((u.length : Int) + 1)] = .ok (.int r6) (dI h6) := f1
  obtain ⟨io3, lr⟩ := lengths_right_ok (m := r6) tu u0 (by omega) (by omega)
  refine ⟨[some (dI h6), some (dT u), some (dT w), some (.int (((1 + r1 : Nat)) : Int)), some (.int ((min w.length t.length : Nat) : Int))], rfl, ?_⟩
  have k1 : sSetW 2 (eCall F__law_deck (aCons (eV 1) aNil)) [some q, some (.int c), x2, x3, x4, x5, x6] = .ok .nx [some q, some (.int c), some (dI h), x3, x4, x5, x6] := by simp [a1, List.all_map]
  have k2 : sUnp (eCallW F__law_pair 2 (aCons (eC (.bl true)) aNil)) (tgT [3, 4]) [some q, some (.int c), some (dI h), x3, x4, x5, x6] = .ok .nx [some q, some (.int c), some (dI h1), some (dT t), some (dT w), x5, x6] := by simp [b1, List.all_map]
  have k3 : sSet 5 (e2 gAdd (eC (.int 1)) (eCallW F__law_take_v3 2 (aCons (eN gLen (aCons (eV 3) aNil)) aNil))) [some q, some (.int c), some (dI h1), some (dT t), some (dT w), x5, x6] = .ok .nx [some q, some (.int c), some (dI h2), some (dT t), some (dT w), some (.int (((1 + r1 : Nat)) : Int)), x6] := by
    rw [show (((1 + r1 : Nat)) : Int) = 1 + (r1 : Int) by omega]
    simp [d1, List.all_map]
  unfold B_law_k27_l2
  rw [r_sSeq, k1, rb_ok, sqK_nx, r_sSeq, k2, rb_ok, sqK_nx, r_sSeq, k3, rb_ok, sqK_nx]
  generalize (((1 + r1 : Nat)) : Int) = V5 at *
  have mcn : ((t.length, 0) : Nat × Nat).1 = t.length := rfl
  have n1 : gNe (.int ((1 : Nat) : Int)) (.int 1) = some (.bl false) := by simp
  have gt : gLen [dT t] = some (.int (t.length : Int)) := by simp
  have gw : gLen [dT w] = some (.int (w.length : Int)) := by simp
  have gu : gLen [dT u] = some (.int (u.length : Int)) := by simp
  have ct3 : gSl (dT t) none (some 3) = some (dT (t.take 3)) := by
    show some (D.lst _) = some (D.lst _)
    rw [cutA_map, c3]
  have ctk : gSl (dT t) none (some (pk : Int)) = some (dT u) := by
    show some (D.lst _) = some (D.lst _)
    rw [cutA_map, ck]
  have mc : F_most_covering [dT t, .int (t.length : Int)] = .ok (.tup [.int (t.length : Int), .int 0]) (dT t) := mc
  have ns : gNe (.tup [.int (t.length : Int), .int 0]) (.tup [.int (t.length : Int), .int 0]) = some (.bl false) := ns
  have lz : F_length_for [dT t, .int 0] = .ok (.int 1) (dT t) := lz
  have al : ∀ h : List Int, (h.map D.int).all D.sc = true := fun h => all_ints _
  generalize ((min w.length t.length : Nat) : Int) = MN at *
  generalize dT (t.take 3) = T3 at *
  generalize ht' : t.length = n at *
  generalize hw' : w.length = nw at *
  generalize hu' : u.length = nu at *
  generalize dT t = T at *
  generalize dT w = W at *
  generalize dT u = U at *
  simp [wr1, wr2, ct3, gw, gt, mn, z2, z4, lp, mc, ns, lz, e1, s1, ctk, gu, f1, lr, List.all_map]
end
theorem true_law_k27 (ns : List Int) (hl : ns.length ≤ 63) : ∃ io, F_law_k27 [.lst (ns.map .int)] = .ok (.bl true) io := by
  obtain ⟨cs, hcs⟩ := cells_seq ns hl 3
  obtain ⟨y1, ys, _, h1⟩ := for_cells (q := .lst (ns.map .int)) (fun c xs hx => k27_cell (q := .lst (ns.map .int)) (c := c) hx) cs none (List.replicate 5 none) rfl
  refine ⟨.lst (ns.map .int), ?_⟩
  have hcs := hcs (none :: List.replicate 5 none)
  have hcs : (iL (e2 gAdd (eSlQ 0 oNone (oSome (eC (.int 3)))) (eN gLst (aCons (eCallQ F__law_cell_at 0 (aCons (eC (.int 0)) aNil)) aNil)))) (some (.lst (ns.map .int)) :: none :: List.replicate 5 none) = .ok (cs.map .int) (some (.lst (ns.map .int)) :: none :: List.replicate 5 none) := hcs
  simp only [F_law_k27, r_runF, B_law_k27, r_envOf, r_sSeq, r_sFor]
  have e0 : [D.lst (ns.map .int)].map some ++ List.replicate (7 - [D.lst (ns.map .int)].length) none = some (.lst (ns.map .int)) :: none :: List.replicate 5 none := rfl
  rw [e0, hcs, rb_ok, h1]
  simp
end Ov
namespace Lk27
open PySem PySem.Spec PyProof.Rows L2 MV Ov
def topS (i : Nat) : Stmt := PySem.Challenge.pw_overlaid_k27_whole_bare.main.body.getD i (.Pass ⟨0, 0, 0, 0⟩)
abbrev s_need_word : Stmt := topS 8
abbrev N_need_word : List Str := [Str.ofString "word"]
abbrev ps_need_word : List Str := [Str.ofString "word"]
theorem sc_need_word : FnScope N_need_word ps_need_word (defScope s_need_word) := ⟨rfl, rfl, rfl, by decide +kernel, rfl, by decide +kernel, by decide +kernel⟩
def cf_need_word (K : PySem.W.Frag) (mg : Str → Option Value) : Cf := ⟨K, fun i => [Kd.S].getD i .S, cvK K⟩
abbrev s_need_signs : Stmt := topS 9
abbrev N_need_signs : List Str := [Str.ofString "signs", Str.ofString "sign"]
abbrev ps_need_signs : List Str := [Str.ofString "signs"]
theorem sc_need_signs : FnScope N_need_signs ps_need_signs (defScope s_need_signs) := ⟨rfl, rfl, rfl, by decide +kernel, rfl, by decide +kernel, by decide +kernel⟩
def cf_need_signs (K : PySem.W.Frag) (mg : Str → Option Value) : Cf := ⟨K, fun i => [Kd.S, Kd.S].getD i .S, cvK K⟩
abbrev s_need_text : Stmt := topS 10
abbrev N_need_text : List Str := [Str.ofString "text"]
abbrev ps_need_text : List Str := [Str.ofString "text"]
theorem sc_need_text : FnScope N_need_text ps_need_text (defScope s_need_text) := ⟨rfl, rfl, rfl, by decide +kernel, rfl, by decide +kernel, by decide +kernel⟩
def cf_need_text (K : PySem.W.Frag) (mg : Str → Option Value) : Cf := ⟨K, fun i => [Kd.S].getD i .S, cvK K⟩
abbrev s_greatest_borders : Stmt := topS 11
abbrev N_greatest_borders : List Str := [Str.ofString "text", Str.ofString "found", Str.ofString "border", Str.ofString "place", Str.ofString "sign"]
abbrev ps_greatest_borders : List Str := [Str.ofString "text"]
theorem sc_greatest_borders : FnScope N_greatest_borders ps_greatest_borders (defScope s_greatest_borders) := ⟨rfl, rfl, rfl, by decide +kernel, rfl, by decide +kernel, by decide +kernel⟩
def cf_greatest_borders (K : PySem.W.Frag) (mg : Str → Option Value) : Cf := ⟨K, fun i => [Kd.S, Kd.M, Kd.S, Kd.S, Kd.S].getD i .S, cvK K⟩
abbrev s_laid_at : Stmt := topS 13
abbrev N_laid_at : List Str := [Str.ofString "text", Str.ofString "word", Str.ofString "size", Str.ofString "place"]
abbrev ps_laid_at : List Str := [Str.ofString "text", Str.ofString "word"]
theorem sc_laid_at : FnScope N_laid_at ps_laid_at (defScope s_laid_at) := ⟨rfl, rfl, rfl, by decide +kernel, rfl, by decide +kernel, by decide +kernel⟩
def cf_laid_at (K : PySem.W.Frag) (mg : Str → Option Value) : Cf := ⟨K, fun i => [Kd.S, Kd.S, Kd.S, Kd.S].getD i .S, cvK K⟩
abbrev s_need_number : Stmt := topS 16
abbrev N_need_number : List Str := [Str.ofString "truth"]
abbrev ps_need_number : List Str := [Str.ofString "truth"]
theorem sc_need_number : FnScope N_need_number ps_need_number (defScope s_need_number) := ⟨rfl, rfl, rfl, by decide +kernel, rfl, by decide +kernel, by decide +kernel⟩
def cf_need_number (K : PySem.W.Frag) (mg : Str → Option Value) : Cf := ⟨K, fun i => [Kd.S].getD i .S, cvK K⟩
abbrev s_most_of : Stmt := topS 18
abbrev N_most_of : List Str := [Str.ofString "text", Str.ofString "many", Str.ofString "places", Str.ofString "place", Str.ofString "best", Str.ofString "some", Str.ofString "piece", Str.ofString "number", Str.ofString "one", Str.ofString "other"]
abbrev ps_most_of : List Str := [Str.ofString "text", Str.ofString "many"]
theorem sc_most_of : FnScope N_most_of ps_most_of (defScope s_most_of) := ⟨rfl, rfl, rfl, by decide +kernel, rfl, by decide +kernel, by decide +kernel⟩
def cf_most_of (K : PySem.W.Frag) (mg : Str → Option Value) : Cf := ⟨K, fun i => [Kd.S, Kd.S, Kd.P, Kd.S, Kd.N, Kd.S, Kd.S, Kd.S, Kd.S, Kd.S].getD i .S, cvK K⟩
abbrev s_first_bare : Stmt := topS 23
abbrev N_first_bare : List Str := [Str.ofString "size", Str.ofString "places", Str.ofString "end", Str.ofString "reached", Str.ofString "place"]
abbrev ps_first_bare : List Str := [Str.ofString "size", Str.ofString "places", Str.ofString "end"]
theorem sc_first_bare : FnScope N_first_bare ps_first_bare (defScope s_first_bare) := ⟨rfl, rfl, rfl, by decide +kernel, rfl, by decide +kernel, by decide +kernel⟩
def cf_first_bare (K : PySem.W.Frag) (mg : Str → Option Value) : Cf := ⟨K, fun i => [Kd.S, Kd.S, Kd.S, Kd.N, Kd.S].getD i .S, cvK K⟩
abbrev s__law_cell_at : Stmt := topS 27
abbrev N__law_cell_at : List Str := [Str.ofString "script", Str.ofString "k"]
abbrev ps__law_cell_at : List Str := [Str.ofString "script", Str.ofString "k"]
theorem sc__law_cell_at : FnScope N__law_cell_at ps__law_cell_at (defScope s__law_cell_at) := ⟨rfl, rfl, rfl, by decide +kernel, rfl, by decide +kernel, by decide +kernel⟩
def cf__law_cell_at (K : PySem.W.Frag) (mg : Str → Option Value) : Cf := ⟨K, fun i => [Kd.Q, Kd.S].getD i .S, cvK K⟩
abbrev s__law_deck : Stmt := topS 28
abbrev N__law_deck : List Str := [Str.ofString "cell"]
abbrev ps__law_deck : List Str := [Str.ofString "cell"]
theorem sc__law_deck : FnScope N__law_deck ps__law_deck (defScope s__law_deck) := ⟨rfl, rfl, rfl, by decide +kernel, rfl, by decide +kernel, by decide +kernel⟩
def cf__law_deck (K : PySem.W.Frag) (mg : Str → Option Value) : Cf := ⟨K, fun i => [Kd.S].getD i .S, cvK K⟩
abbrev s__law_take : Stmt := topS 29
abbrev N__law_take : List Str := [Str.ofString "deck", Str.ofString "many", Str.ofString "stir", Str.ofString "digit"]
abbrev ps__law_take : List Str := [Str.ofString "deck", Str.ofString "many"]
theorem sc__law_take : FnScope N__law_take ps__law_take (defScope s__law_take) := ⟨rfl, rfl, rfl, by decide +kernel, rfl, by decide +kernel, by decide +kernel⟩
def cf__law_take (K : PySem.W.Frag) (mg : Str → Option Value) : Cf := ⟨K, fun i => [Kd.W, Kd.S, Kd.S, Kd.S].getD i .S, cvK K⟩
abbrev s__law_renamed : Stmt := topS 36
abbrev N__law_renamed : List Str := [Str.ofString "signs", Str.ofString "far", Str.ofString "times", Str.ofString "every", Str.ofString "sign"]
abbrev ps__law_renamed : List Str := [Str.ofString "signs", Str.ofString "far", Str.ofString "times"]
theorem sc__law_renamed : FnScope N__law_renamed ps__law_renamed (defScope s__law_renamed) := ⟨rfl, rfl, rfl, by decide +kernel, rfl, by decide +kernel, by decide +kernel⟩
def cf__law_renamed (K : PySem.W.Frag) (mg : Str → Option Value) : Cf := ⟨K, fun i => [Kd.S, Kd.S, Kd.S, Kd.S, Kd.S].getD i .S, cvK K⟩
abbrev s_borders : Stmt := topS 12
abbrev N_borders : List Str := [Str.ofString "text", Str.ofString "found", Str.ofString "greatest", Str.ofString "border"]
abbrev ps_borders : List Str := [Str.ofString "text"]
theorem sc_borders : FnScope N_borders ps_borders (defScope s_borders) := ⟨rfl, rfl, rfl, by decide +kernel, rfl, by decide +kernel, by decide +kernel⟩
def cf_borders (K : PySem.W.Frag) (mg : Str → Option Value) : Cf := ⟨K, fun i => [Kd.S, Kd.M, Kd.S, Kd.S].getD i .S, cvK K⟩
abbrev s_lies_at : Stmt := topS 14
abbrev N_lies_at : List Str := [Str.ofString "text", Str.ofString "word"]
abbrev ps_lies_at : List Str := [Str.ofString "text", Str.ofString "word"]
theorem sc_lies_at : FnScope N_lies_at ps_lies_at (defScope s_lies_at) := ⟨rfl, rfl, rfl, by decide +kernel, rfl, by decide +kernel, by decide +kernel⟩
def cf_lies_at (K : PySem.W.Frag) (mg : Str → Option Value) : Cf := ⟨K, fun i => [Kd.S, Kd.S].getD i .S, cvK K⟩
abbrev s_how_covered : Stmt := topS 17
abbrev N_how_covered : List Str := [Str.ofString "text", Str.ofString "word", Str.ofString "runs", Str.ofString "behind", Str.ofString "place", Str.ofString "begin", Str.ofString "end"]
abbrev ps_how_covered : List Str := [Str.ofString "text", Str.ofString "word"]
theorem sc_how_covered : FnScope N_how_covered ps_how_covered (defScope s_how_covered) := ⟨rfl, rfl, rfl, by decide +kernel, rfl, by decide +kernel, by decide +kernel⟩
def cf_how_covered (K : PySem.W.Frag) (mg : Str → Option Value) : Cf := ⟨K, fun i => [Kd.S, Kd.S, Kd.M, Kd.S, Kd.S, Kd.S, Kd.S].getD i .S, cvK K⟩
abbrev s_most_covering : Stmt := topS 19
abbrev N_most_covering : List Str := [Str.ofString "text", Str.ofString "many"]
abbrev ps_most_covering : List Str := [Str.ofString "text", Str.ofString "many"]
theorem sc_most_covering : FnScope N_most_covering ps_most_covering (defScope s_most_covering) := ⟨rfl, rfl, rfl, by decide +kernel, rfl, by decide +kernel, by decide +kernel⟩
def cf_most_covering (K : PySem.W.Frag) (mg : Str → Option Value) : Cf := ⟨K, fun i => [Kd.S, Kd.S].getD i .S, cvK K⟩
abbrev s_length_for : Stmt := topS 20
abbrev N_length_for : List Str := [Str.ofString "text", Str.ofString "many", Str.ofString "length"]
abbrev ps_length_for : List Str := [Str.ofString "text", Str.ofString "many"]
theorem sc_length_for : FnScope N_length_for ps_length_for (defScope s_length_for) := ⟨rfl, rfl, rfl, by decide +kernel, rfl, by decide +kernel, by decide +kernel⟩
def cf_length_for (K : PySem.W.Frag) (mg : Str → Option Value) : Cf := ⟨K, fun i => [Kd.S, Kd.S, Kd.N].getD i .S, cvK K⟩
abbrev s_need_both : Stmt := topS 22
abbrev N_need_both : List Str := [Str.ofString "text", Str.ofString "word"]
abbrev ps_need_both : List Str := [Str.ofString "text", Str.ofString "word"]
theorem sc_need_both : FnScope N_need_both ps_need_both (defScope s_need_both) := ⟨rfl, rfl, rfl, by decide +kernel, rfl, by decide +kernel, by decide +kernel⟩
def cf_need_both (K : PySem.W.Frag) (mg : Str → Option Value) : Cf := ⟨K, fun i => [Kd.S, Kd.S].getD i .S, cvK K⟩
abbrev s__law_letters : Stmt := topS 30
abbrev N__law_letters : List Str := [Str.ofString "deck", Str.ofString "every", Str.ofString "first", Str.ofString "step", Str.ofString "many", Str.ofString "k"]
abbrev ps__law_letters : List Str := [Str.ofString "deck"]
theorem sc__law_letters : FnScope N__law_letters ps__law_letters (defScope s__law_letters) := ⟨rfl, rfl, rfl, by decide +kernel, rfl, by decide +kernel, by decide +kernel⟩
def cf__law_letters (K : PySem.W.Frag) (mg : Str → Option Value) : Cf := ⟨K, fun i => [Kd.W, Kd.S, Kd.S, Kd.S, Kd.S, Kd.S].getD i .S, cvK K⟩
abbrev s__law_signs : Stmt := topS 31
abbrev N__law_signs : List Str := [Str.ofString "deck", Str.ofString "letters", Str.ofString "many", Str.ofString "k"]
abbrev ps__law_signs : List Str := [Str.ofString "deck", Str.ofString "letters", Str.ofString "many"]
theorem sc__law_signs : FnScope N__law_signs ps__law_signs (defScope s__law_signs) := ⟨rfl, rfl, rfl, by decide +kernel, rfl, by decide +kernel, by decide +kernel⟩
def cf__law_signs (K : PySem.W.Frag) (mg : Str → Option Value) : Cf := ⟨K, fun i => [Kd.W, Kd.S, Kd.S, Kd.S].getD i .S, cvK K⟩
abbrev s_covered : Stmt := topS 24
abbrev N_covered : List Str := [Str.ofString "text", Str.ofString "word", Str.ofString "places", Str.ofString "bare"]
abbrev ps_covered : List Str := [Str.ofString "text", Str.ofString "word"]
theorem sc_covered : FnScope N_covered ps_covered (defScope s_covered) := ⟨rfl, rfl, rfl, by decide +kernel, rfl, by decide +kernel, by decide +kernel⟩
def cf_covered (K : PySem.W.Frag) (mg : Str → Option Value) : Cf := ⟨K, fun i => [Kd.S, Kd.S, Kd.N, Kd.N].getD i .S, cvK K⟩
abbrev s__law_word : Stmt := topS 32
abbrev N__law_word : List Str := [Str.ofString "deck", Str.ofString "letters", Str.ofString "most", Str.ofString "way", Str.ofString "one"]
abbrev ps__law_word : List Str := [Str.ofString "deck", Str.ofString "letters", Str.ofString "most"]
theorem sc__law_word : FnScope N__law_word ps__law_word (defScope s__law_word) := ⟨rfl, rfl, rfl, by decide +kernel, rfl, by decide +kernel, by decide +kernel⟩
def cf__law_word (K : PySem.W.Frag) (mg : Str → Option Value) : Cf := ⟨K, fun i => [Kd.W, Kd.S, Kd.S, Kd.S, Kd.N].getD i .S, cvK K⟩
abbrev s__law_overlaid : Stmt := topS 33
abbrev N__law_overlaid : List Str := [Str.ofString "deck", Str.ofString "letters", Str.ofString "word", Str.ofString "many", Str.ofString "found", Str.ofString "k", Str.ofString "some", Str.ofString "over", Str.ofString "j"]
abbrev ps__law_overlaid : List Str := [Str.ofString "deck", Str.ofString "letters", Str.ofString "word", Str.ofString "many"]
theorem sc__law_overlaid : FnScope N__law_overlaid ps__law_overlaid (defScope s__law_overlaid) := ⟨rfl, rfl, rfl, by decide +kernel, rfl, by decide +kernel, by decide +kernel⟩
def cf__law_overlaid (K : PySem.W.Frag) (mg : Str → Option Value) : Cf := ⟨K, fun i => [Kd.W, Kd.S, Kd.S, Kd.S, Kd.N, Kd.S, Kd.S, Kd.S, Kd.S].getD i .S, cvK K⟩
abbrev s__law_bent : Stmt := topS 34
abbrev N__law_bent : List Str := [Str.ofString "deck", Str.ofString "letters", Str.ofString "text", Str.ofString "at", Str.ofString "way"]
abbrev ps__law_bent : List Str := [Str.ofString "deck", Str.ofString "letters", Str.ofString "text"]
theorem sc__law_bent : FnScope N__law_bent ps__law_bent (defScope s__law_bent) := ⟨rfl, rfl, rfl, by decide +kernel, rfl, by decide +kernel, by decide +kernel⟩
def cf__law_bent (K : PySem.W.Frag) (mg : Str → Option Value) : Cf := ⟨K, fun i => [Kd.W, Kd.S, Kd.S, Kd.S, Kd.S].getD i .S, cvK K⟩
abbrev s__law_first_bare : Stmt := topS 38
abbrev N__law_first_bare : List Str := [Str.ofString "text", Str.ofString "word"]
abbrev ps__law_first_bare : List Str := [Str.ofString "text", Str.ofString "word"]
theorem sc__law_first_bare : FnScope N__law_first_bare ps__law_first_bare (defScope s__law_first_bare) := ⟨rfl, rfl, rfl, by decide +kernel, rfl, by decide +kernel, by decide +kernel⟩
def cf__law_first_bare (K : PySem.W.Frag) (mg : Str → Option Value) : Cf := ⟨K, fun i => [Kd.S, Kd.S].getD i .S, cvK K⟩
abbrev s__law_piece_right : Stmt := topS 39
abbrev N__law_piece_right : List Str := [Str.ofString "deck", Str.ofString "text", Str.ofString "word", Str.ofString "many", Str.ofString "number", Str.ofString "place", Str.ofString "piece", Str.ofString "far", Str.ofString "times", Str.ofString "at"]
abbrev ps__law_piece_right : List Str := [Str.ofString "deck", Str.ofString "text", Str.ofString "word", Str.ofString "many"]
theorem sc__law_piece_right : FnScope N__law_piece_right ps__law_piece_right (defScope s__law_piece_right) := ⟨rfl, rfl, rfl, by decide +kernel, rfl, by decide +kernel, by decide +kernel⟩
def cf__law_piece_right (K : PySem.W.Frag) (mg : Str → Option Value) : Cf := ⟨K, fun i => [Kd.W, Kd.S, Kd.S, Kd.S, Kd.S, Kd.S, Kd.S, Kd.S, Kd.S, Kd.S].getD i .S, cvK K⟩
abbrev s_all_covers : Stmt := topS 25
abbrev N_all_covers : List Str := [Str.ofString "text", Str.ofString "some", Str.ofString "size"]
abbrev ps_all_covers : List Str := [Str.ofString "text"]
theorem sc_all_covers : FnScope N_all_covers ps_all_covers (defScope s_all_covers) := ⟨rfl, rfl, rfl, by decide +kernel, rfl, by decide +kernel, by decide +kernel⟩
def cf_all_covers (K : PySem.W.Frag) (mg : Str → Option Value) : Cf := ⟨K, fun i => [Kd.S, Kd.S, Kd.S].getD i .S, cvK K⟩
abbrev s__law_pair : Stmt := topS 35
abbrev N__law_pair : List Str := [Str.ofString "deck", Str.ofString "long", Str.ofString "letters", Str.ofString "word", Str.ofString "text", Str.ofString "begin", Str.ofString "end"]
abbrev ps__law_pair : List Str := [Str.ofString "deck", Str.ofString "long"]
theorem sc__law_pair : FnScope N__law_pair ps__law_pair (defScope s__law_pair) := ⟨rfl, rfl, rfl, by decide +kernel, rfl, by decide +kernel, by decide +kernel⟩
def cf__law_pair (K : PySem.W.Frag) (mg : Str → Option Value) : Cf := ⟨K, fun i => [Kd.W, Kd.S, Kd.N, Kd.N, Kd.N, Kd.S, Kd.S].getD i .S, cvK K⟩
abbrev s__law_word_right : Stmt := topS 37
abbrev N__law_word_right : List Str := [Str.ofString "text", Str.ofString "word", Str.ofString "number", Str.ofString "runs", Str.ofString "bare", Str.ofString "told", Str.ofString "back", Str.ofString "size", Str.ofString "begin", Str.ofString "end", Str.ofString "one", Str.ofString "other"]
abbrev ps__law_word_right : List Str := [Str.ofString "text", Str.ofString "word"]
theorem sc__law_word_right : FnScope N__law_word_right ps__law_word_right (defScope s__law_word_right) := ⟨rfl, rfl, rfl, by decide +kernel, rfl, by decide +kernel, by decide +kernel⟩
def cf__law_word_right (K : PySem.W.Frag) (mg : Str → Option Value) : Cf := ⟨K, fun i => [Kd.S, Kd.S, Kd.S, Kd.S, Kd.S, Kd.S, Kd.S, Kd.S, Kd.S, Kd.S, Kd.S, Kd.S].getD i .S, cvK K⟩
abbrev s__law_lengths_right : Stmt := topS 40
abbrev N__law_lengths_right : List Str := [Str.ofString "text", Str.ofString "many", Str.ofString "length", Str.ofString "every", Str.ofString "own"]
abbrev ps__law_lengths_right : List Str := [Str.ofString "text", Str.ofString "many"]
theorem sc__law_lengths_right : FnScope N__law_lengths_right ps__law_lengths_right (defScope s__law_lengths_right) := ⟨rfl, rfl, rfl, by decide +kernel, rfl, by decide +kernel, by decide +kernel⟩
def cf__law_lengths_right (K : PySem.W.Frag) (mg : Str → Option Value) : Cf := ⟨K, fun i => [Kd.S, Kd.S, Kd.S, Kd.S, Kd.S].getD i .S, cvK K⟩
abbrev s_law : Stmt := topS 41
abbrev N_law : List Str := [Str.ofString "script", Str.ofString "cell", Str.ofString "deck", Str.ofString "text", Str.ofString "word", Str.ofString "many", Str.ofString "own"]
abbrev ps_law : List Str := [Str.ofString "script"]
theorem sc_law : FnScope N_law ps_law (defScope s_law) := ⟨rfl, rfl, rfl, by decide +kernel, rfl, by decide +kernel, by decide +kernel⟩
def cf_law (K : PySem.W.Frag) (mg : Str → Option Value) : Cf := ⟨K, fun i => [Kd.Q, Kd.S, Kd.W, Kd.S, Kd.S, Kd.S, Kd.S].getD i .S, cvK K⟩
structure Tp (K : PySem.W.Frag) (mg : Str → Option Value) where
  f_need_word : Addr
  d_need_word : FuncData
  F_need_word : Fun K (Str.ofString "need_word") (Str.ofString "need_word") s_need_word f_need_word d_need_word
  g_need_word : mg (Str.ofString "need_word") = some (.ref f_need_word)
  b_need_word : Binds K d_need_word ps_need_word []
  f_need_signs : Addr
  d_need_signs : FuncData
  F_need_signs : Fun K (Str.ofString "need_signs") (Str.ofString "need_signs") s_need_signs f_need_signs d_need_signs
  g_need_signs : mg (Str.ofString "need_signs") = some (.ref f_need_signs)
  b_need_signs : Binds K d_need_signs ps_need_signs []
  f_need_text : Addr
  d_need_text : FuncData
  F_need_text : Fun K (Str.ofString "need_text") (Str.ofString "need_text") s_need_text f_need_text d_need_text
  g_need_text : mg (Str.ofString "need_text") = some (.ref f_need_text)
  b_need_text : Binds K d_need_text ps_need_text []
  f_greatest_borders : Addr
  d_greatest_borders : FuncData
  F_greatest_borders : Fun K (Str.ofString "greatest_borders") (Str.ofString "greatest_borders") s_greatest_borders f_greatest_borders d_greatest_borders
  g_greatest_borders : mg (Str.ofString "greatest_borders") = some (.ref f_greatest_borders)
  b_greatest_borders : Binds K d_greatest_borders ps_greatest_borders []
  f_laid_at : Addr
  d_laid_at : FuncData
  F_laid_at : Fun K (Str.ofString "laid_at") (Str.ofString "laid_at") s_laid_at f_laid_at d_laid_at
  g_laid_at : mg (Str.ofString "laid_at") = some (.ref f_laid_at)
  b_laid_at : Binds K d_laid_at ps_laid_at []
  f_need_number : Addr
  d_need_number : FuncData
  F_need_number : Fun K (Str.ofString "need_number") (Str.ofString "need_number") s_need_number f_need_number d_need_number
  g_need_number : mg (Str.ofString "need_number") = some (.ref f_need_number)
  b_need_number : Binds K d_need_number ps_need_number []
  f_most_of : Addr
  d_most_of : FuncData
  F_most_of : Fun K (Str.ofString "most_of") (Str.ofString "most_of") s_most_of f_most_of d_most_of
  g_most_of : mg (Str.ofString "most_of") = some (.ref f_most_of)
  b_most_of : Binds K d_most_of ps_most_of []
  f_first_bare : Addr
  d_first_bare : FuncData
  F_first_bare : Fun K (Str.ofString "first_bare") (Str.ofString "first_bare") s_first_bare f_first_bare d_first_bare
  g_first_bare : mg (Str.ofString "first_bare") = some (.ref f_first_bare)
  b_first_bare : Binds K d_first_bare ps_first_bare []
  f__law_cell_at : Addr
  d__law_cell_at : FuncData
  F__law_cell_at : Fun K (Str.ofString "_law_cell_at") (Str.ofString "_law_cell_at") s__law_cell_at f__law_cell_at d__law_cell_at
  g__law_cell_at : mg (Str.ofString "_law_cell_at") = some (.ref f__law_cell_at)
  b__law_cell_at : Binds K d__law_cell_at ps__law_cell_at []
  f__law_deck : Addr
  d__law_deck : FuncData
  F__law_deck : Fun K (Str.ofString "_law_deck") (Str.ofString "_law_deck") s__law_deck f__law_deck d__law_deck
  g__law_deck : mg (Str.ofString "_law_deck") = some (.ref f__law_deck)
  b__law_deck : Binds K d__law_deck ps__law_deck []
  f__law_take : Addr
  d__law_take : FuncData
  F__law_take : Fun K (Str.ofString "_law_take") (Str.ofString "_law_take") s__law_take f__law_take d__law_take
  g__law_take : mg (Str.ofString "_law_take") = some (.ref f__law_take)
  b__law_take : Binds K d__law_take ps__law_take []
  f__law_renamed : Addr
  d__law_renamed : FuncData
  F__law_renamed : Fun K (Str.ofString "_law_renamed") (Str.ofString "_law_renamed") s__law_renamed f__law_renamed d__law_renamed
  g__law_renamed : mg (Str.ofString "_law_renamed") = some (.ref f__law_renamed)
  b__law_renamed : Binds K d__law_renamed ps__law_renamed []
  f_borders : Addr
  d_borders : FuncData
  F_borders : Fun K (Str.ofString "borders") (Str.ofString "borders") s_borders f_borders d_borders
  g_borders : mg (Str.ofString "borders") = some (.ref f_borders)
  b_borders : Binds K d_borders ps_borders []
  f_lies_at : Addr
  d_lies_at : FuncData
  F_lies_at : Fun K (Str.ofString "lies_at") (Str.ofString "lies_at") s_lies_at f_lies_at d_lies_at
  g_lies_at : mg (Str.ofString "lies_at") = some (.ref f_lies_at)
  b_lies_at : Binds K d_lies_at ps_lies_at []
  f_how_covered : Addr
  d_how_covered : FuncData
  F_how_covered : Fun K (Str.ofString "how_covered") (Str.ofString "how_covered") s_how_covered f_how_covered d_how_covered
  g_how_covered : mg (Str.ofString "how_covered") = some (.ref f_how_covered)
  b_how_covered : Binds K d_how_covered ps_how_covered []
  f_most_covering : Addr
  d_most_covering : FuncData
  F_most_covering : Fun K (Str.ofString "most_covering") (Str.ofString "most_covering") s_most_covering f_most_covering d_most_covering
  g_most_covering : mg (Str.ofString "most_covering") = some (.ref f_most_covering)
  b_most_covering : Binds K d_most_covering ps_most_covering []
  f_length_for : Addr
  d_length_for : FuncData
  F_length_for : Fun K (Str.ofString "length_for") (Str.ofString "length_for") s_length_for f_length_for d_length_for
  g_length_for : mg (Str.ofString "length_for") = some (.ref f_length_for)
  b_length_for : Binds K d_length_for ps_length_for []
  f_need_both : Addr
  d_need_both : FuncData
  F_need_both : Fun K (Str.ofString "need_both") (Str.ofString "need_both") s_need_both f_need_both d_need_both
  g_need_both : mg (Str.ofString "need_both") = some (.ref f_need_both)
  b_need_both : Binds K d_need_both ps_need_both []
  f__law_letters : Addr
  d__law_letters : FuncData
  F__law_letters : Fun K (Str.ofString "_law_letters") (Str.ofString "_law_letters") s__law_letters f__law_letters d__law_letters
  g__law_letters : mg (Str.ofString "_law_letters") = some (.ref f__law_letters)
  b__law_letters : Binds K d__law_letters ps__law_letters []
  f__law_signs : Addr
  d__law_signs : FuncData
  F__law_signs : Fun K (Str.ofString "_law_signs") (Str.ofString "_law_signs") s__law_signs f__law_signs d__law_signs
  g__law_signs : mg (Str.ofString "_law_signs") = some (.ref f__law_signs)
  b__law_signs : Binds K d__law_signs ps__law_signs []
  f_covered : Addr
  d_covered : FuncData
  F_covered : Fun K (Str.ofString "covered") (Str.ofString "covered") s_covered f_covered d_covered
  g_covered : mg (Str.ofString "covered") = some (.ref f_covered)
  b_covered : Binds K d_covered ps_covered []
  f__law_word : Addr
  d__law_word : FuncData
  F__law_word : Fun K (Str.ofString "_law_word") (Str.ofString "_law_word") s__law_word f__law_word d__law_word
  g__law_word : mg (Str.ofString "_law_word") = some (.ref f__law_word)
  b__law_word : Binds K d__law_word ps__law_word []
  f__law_overlaid : Addr
  d__law_overlaid : FuncData
  F__law_overlaid : Fun K (Str.ofString "_law_overlaid") (Str.ofString "_law_overlaid") s__law_overlaid f__law_overlaid d__law_overlaid
  g__law_overlaid : mg (Str.ofString "_law_overlaid") = some (.ref f__law_overlaid)
  b__law_overlaid : Binds K d__law_overlaid ps__law_overlaid []
  f__law_bent : Addr
  d__law_bent : FuncData
  F__law_bent : Fun K (Str.ofString "_law_bent") (Str.ofString "_law_bent") s__law_bent f__law_bent d__law_bent
  g__law_bent : mg (Str.ofString "_law_bent") = some (.ref f__law_bent)
  b__law_bent : Binds K d__law_bent ps__law_bent []
  f__law_first_bare : Addr
  d__law_first_bare : FuncData
  F__law_first_bare : Fun K (Str.ofString "_law_first_bare") (Str.ofString "_law_first_bare") s__law_first_bare f__law_first_bare d__law_first_bare
  g__law_first_bare : mg (Str.ofString "_law_first_bare") = some (.ref f__law_first_bare)
  b__law_first_bare : Binds K d__law_first_bare ps__law_first_bare []
  f__law_piece_right : Addr
  d__law_piece_right : FuncData
  F__law_piece_right : Fun K (Str.ofString "_law_piece_right") (Str.ofString "_law_piece_right") s__law_piece_right f__law_piece_right d__law_piece_right
  g__law_piece_right : mg (Str.ofString "_law_piece_right") = some (.ref f__law_piece_right)
  b__law_piece_right : Binds K d__law_piece_right ps__law_piece_right []
  f_all_covers : Addr
  d_all_covers : FuncData
  F_all_covers : Fun K (Str.ofString "all_covers") (Str.ofString "all_covers") s_all_covers f_all_covers d_all_covers
  g_all_covers : mg (Str.ofString "all_covers") = some (.ref f_all_covers)
  b_all_covers : Binds K d_all_covers ps_all_covers []
  f__law_pair : Addr
  d__law_pair : FuncData
  F__law_pair : Fun K (Str.ofString "_law_pair") (Str.ofString "_law_pair") s__law_pair f__law_pair d__law_pair
  g__law_pair : mg (Str.ofString "_law_pair") = some (.ref f__law_pair)
  b__law_pair : Binds K d__law_pair ps__law_pair []
  f__law_word_right : Addr
  d__law_word_right : FuncData
  F__law_word_right : Fun K (Str.ofString "_law_word_right") (Str.ofString "_law_word_right") s__law_word_right f__law_word_right d__law_word_right
  g__law_word_right : mg (Str.ofString "_law_word_right") = some (.ref f__law_word_right)
  b__law_word_right : Binds K d__law_word_right ps__law_word_right []
  f__law_lengths_right : Addr
  d__law_lengths_right : FuncData
  F__law_lengths_right : Fun K (Str.ofString "_law_lengths_right") (Str.ofString "_law_lengths_right") s__law_lengths_right f__law_lengths_right d__law_lengths_right
  g__law_lengths_right : mg (Str.ofString "_law_lengths_right") = some (.ref f__law_lengths_right)
  b__law_lengths_right : Binds K d__law_lengths_right ps__law_lengths_right []
  f_law : Addr
  d_law : FuncData
  F_law : Fun K (Str.ofString "law") (Str.ofString "law") s_law f_law d_law
  g_law : mg (Str.ofString "law") = some (.ref f_law)
  b_law : Binds K d_law ps_law []
  t_LETTERS : Tok
  g_LETTERS : mg (Str.ofString "LETTERS") = some (.str (Str.ofString "abcdefghijklmnopqrstuvwxyz") t_LETTERS)
  m_enumerate : mg (Str.ofString "enumerate") = none
  m_int : mg (Str.ofString "int") = none
  m_len : mg (Str.ofString "len") = none
  m_list : mg (Str.ofString "list") = none
  m_max : mg (Str.ofString "max") = none
  m_min : mg (Str.ofString "min") = none
  m_range : mg (Str.ofString "range") = none
  m_sorted : mg (Str.ofString "sorted") = none
  m_sum : mg (Str.ofString "sum") = none
  m_tuple : mg (Str.ofString "tuple") = none
  m_zip : mg (Str.ofString "zip") = none
  C_NoWord : Addr
  X_NoWord : XCls K mg (Str.ofString "NoWord") C_NoWord
  C_NoSign : Addr
  X_NoSign : XCls K mg (Str.ofString "NoSign") C_NoSign
  C_NoText : Addr
  X_NoText : XCls K mg (Str.ofString "NoText") C_NoText
  C_NoNumber : Addr
  X_NoNumber : XCls K mg (Str.ofString "NoNumber") C_NoNumber
section
variable {P : Program} {w : World} {K : PySem.W.Frag} {mg : Str → Option Value} {base : Heap}
theorem ok_need_word (T : Tp K mg) : FnOk P w K mg base (L2N.CX P w) 1 T.f_need_word T.d_need_word ps_need_word (spP K (cvK K) 1 F_need_word) :=
  fn_P N_need_word ps_need_word 1 1 (cf_need_word K mg) B_need_word rfl rfl T.F_need_word sc_need_word rfl (fun i h1 => by
    match i, h1 with
    | 0, _ => exact rfl
    | i + 1, h => exact absurd h (by simp)) (fun cdv A outer s H E hr tk pw =>
  (sss_one (ss_if (st_eq rfl hr.units (se_vS 0 (pv 0) rfl) (se_lst (c := .V) sa_nil)) (sss_one (ss_raise rfl rfl rfl tk T.X_NoWord)) sss_nil)))
theorem ok_need_signs (T : Tp K mg) : FnOk P w K mg base (L2N.CX P w) 1 T.f_need_signs T.d_need_signs ps_need_signs (spP K (cvK K) 1 F_need_signs) :=
  fn_P N_need_signs ps_need_signs 2 1 (cf_need_signs K mg) B_need_signs rfl rfl T.F_need_signs sc_need_signs rfl (fun i h1 => by
    match i, h1 with
    | 0, _ => exact rfl
    | i + 1, h => exact absurd h (by simp)) (fun cdv A outer s H E hr tk pw =>
  (sss_one (ss_if (st_ne rfl hr.units (se_lc (c := .S) (own := [(Str.ofString "sign", 1)]) rfl (own1 rfl) rfl sc_need_signs.nd (SI.w (si_list rfl (se_vS 0 (pv 0) rfl))) (blkOk_by (own := [(Str.ofString "sign", 1)]) (N := N_need_signs) (sc := (defScope s_need_signs)) (by decide +kernel)) (fun _ _ _ _ _ => (sgt_name (i := 1) (is := [1]) List.mem_cons_self rfl sc_need_signs.nd rfl (Or.inl rfl))) (fun _ _ _ _ _ => (sts_one (st_or2 (st_ne rfl hr.units (se_len rfl T.m_len (sa_cons (se_vS 1 (pv 1) rfl) sa_nil)) se_int) (st_notIn rfl (se_vS 1 (pv 1) rfl) (se_glob (v := (.str (Str.ofString "abcdefghijklmnopqrstuvwxyz"))) (pe_glob (by rfl) T.g_LETTERS ⟨_, rfl⟩) rfl))))) (fun _ _ _ _ _ => (se_vS 1 (pv 1) rfl))) (se_lst (c := .V) sa_nil)) (sss_one (ss_raise rfl rfl rfl tk T.X_NoSign)) sss_nil)))
theorem ok_need_text (T : Tp K mg) : FnOk P w K mg base (L2N.CX P w) 1 T.f_need_text T.d_need_text ps_need_text (spP K (cvK K) 1 F_need_text) :=
  fn_P N_need_text ps_need_text 1 1 (cf_need_text K mg) B_need_text rfl rfl T.F_need_text sc_need_text rfl (fun i h1 => by
    match i, h1 with
    | 0, _ => exact rfl
    | i + 1, h => exact absurd h (by simp)) (fun cdv A outer s H E hr tk pw =>
  (sss_one (ss_if (st_eq rfl hr.units (se_vS 0 (pv 0) rfl) (se_lst (c := .V) sa_nil)) (sss_one (ss_raise rfl rfl rfl tk T.X_NoText)) sss_nil)))
theorem ok_greatest_borders (T : Tp K mg) : FnOk P w K mg base (L2N.CX P w) 1 T.f_greatest_borders T.d_greatest_borders ps_greatest_borders (spP K (cvK K) 1 F_greatest_borders) :=
  fn_P N_greatest_borders ps_greatest_borders 5 1 (cf_greatest_borders K mg) B_greatest_borders rfl rfl T.F_greatest_borders sc_greatest_borders rfl (fun i h1 => by
    match i, h1 with
    | 0, _ => exact rfl
    | i + 1, h => exact absurd h (by simp)) (fun cdv A outer s H E hr tk pw =>
  (sss_cons (ss_setM (sg_of (i := 1) (se_lst (c := .V) sa_nil) sc_greatest_borders.nd rfl (Or.inl rfl)) rfl)
  (sss_cons (ss_setS (sg_of (i := 2) (SE.le se_int .vs) sc_greatest_borders.nd rfl (Or.inl rfl)) rfl)
  (sss_cons (ss_for pw rfl (si_enum rfl (by rfl) T.m_enumerate (sa_cons (se_vS 0 (pv 0) rfl) sa_nil)) (sgt_tup (is := [3, 4]) (js := [3, 4]) rfl rfl (sgts_cons (i := 3) (by decide) rfl sc_greatest_borders.nd rfl (Or.inl rfl) (sgts_cons (i := 4) (by decide) rfl sc_greatest_borders.nd rfl (Or.inl rfl) sgts_nil)) rfl) (sss_cons (ss_if (st_gt (se_vS 3 (pv 3) rfl) se_int) (sss_cons (ss_while WFUEL pw (st_and2 (st_gt (se_vS 2 (pv 2) rfl) se_int) (st_ne rfl hr.units (se_ix rfl (se_vS 0 (pv 0) rfl) (se_vS 2 (pv 2) rfl) (fun _ _ => rfl)) (se_vS 4 (pv 4) rfl))) (sss_one (ss_setS (sg_of (i := 2) (SE.le (SE.scal (se_ix rfl (se_vM 1 (pv 1) rfl) (SE.le (se_sub (se_vS 2 (pv 2) rfl) se_int) .vl) (fun _ _ => rfl))) .vs) sc_greatest_borders.nd rfl (Or.inl rfl)) rfl)))
  (sss_one (ss_iadd (i := 2) (Or.inl rfl) (se_int1 T.m_int (sa_cons (SE.le (se_eq rfl hr.units (se_ix rfl (se_vS 0 (pv 0) rfl) (se_vS 2 (pv 2) rfl) (fun _ _ => rfl)) (se_vS 4 (pv 4) rfl)) .vb) sa_nil)) sc_greatest_borders.nd rfl (Or.inl rfl)))) sss_nil)
  (sss_one (ss_app (i := 1) rfl (pv 1) rfl (SE.le (SE.scal (se_vS 2 (pv 2) rfl)) .vn)))))
  (sss_one (ss_ret (se_vM 1 (pv 1) rfl)))))))
theorem ok_laid_at (T : Tp K mg) : FnOk P w K mg base (L2N.CX P w) 1 T.f_laid_at T.d_laid_at ps_laid_at (spP K (cvK K) 2 F_laid_at) :=
  fn_P N_laid_at ps_laid_at 4 2 (cf_laid_at K mg) B_laid_at rfl rfl T.F_laid_at sc_laid_at rfl (fun i h1 => by
    match i, h1 with
    | 0, _ => exact rfl
    | 1, _ => exact rfl
    | i + 2, h => exact absurd h (by simp)) (fun cdv A outer s H E hr tk pw =>
  (sss_cons (ss_setS (sg_of (i := 2) (SE.le (se_len rfl T.m_len (sa_cons (se_vS 1 (pv 1) rfl) sa_nil)) .vs) sc_laid_at.nd rfl (Or.inr rfl)) rfl)
  (sss_one (ss_ret (SE.le (SE.flat (se_lc (c := .S) (own := [(Str.ofString "place", 3)]) rfl (own1 rfl) rfl sc_laid_at.nd (SI.w (si_range1 (by rfl) T.m_range (sa_cons (SE.le (se_add (se_sub (se_len rfl T.m_len (sa_cons (se_vS 0 (pv 0) rfl) sa_nil)) (se_vS 2 (pv 2) rfl)) se_int) .vb) sa_nil))) (blkOk_by (own := [(Str.ofString "place", 3)]) (N := N_laid_at) (sc := (defScope s_laid_at)) (by decide +kernel)) (fun _ _ _ _ _ => (sgt_name (i := 3) (is := [3]) List.mem_cons_self rfl sc_laid_at.nd rfl (Or.inl rfl))) (fun _ _ _ _ _ => (sts_one (st_eq rfl hr.units (se_sl rfl (se_vS 0 (pv 0) rfl) (so_some (se_vS 3 (pv 3) rfl)) (so_some (se_add (se_vS 3 (pv 3) rfl) (se_vS 2 (pv 2) rfl)))) (se_vS 1 (pv 1) rfl)))) (fun _ _ _ _ _ => (se_vS 3 (pv 3) rfl)))) .vl)))))
theorem ok_need_number (T : Tp K mg) : FnOk P w K mg base (L2N.CX P w) 1 T.f_need_number T.d_need_number ps_need_number (spP K (cvK K) 1 F_need_number) :=
  fn_P N_need_number ps_need_number 1 1 (cf_need_number K mg) B_need_number rfl rfl T.F_need_number sc_need_number rfl (fun i h1 => by
    match i, h1 with
    | 0, _ => exact rfl
    | i + 1, h => exact absurd h (by simp)) (fun cdv A outer s H E hr tk pw =>
  (sss_one (ss_if (st_not (st_tru rfl (se_vS 0 (pv 0) rfl))) (sss_one (ss_raise rfl rfl rfl tk T.X_NoNumber)) sss_nil)))
theorem ok_most_of (T : Tp K mg) : FnOk P w K mg base (L2N.CX P w) 1 T.f_most_of T.d_most_of ps_most_of (spP K (cvK K) 2 F_most_of) :=
  fn_P N_most_of ps_most_of 10 2 (cf_most_of K mg) B_most_of rfl rfl T.F_most_of sc_most_of rfl (fun i h1 => by
    match i, h1 with
    | 0, _ => exact rfl
    | 1, _ => exact rfl
    | i + 2, h => exact absurd h (by simp)) (fun cdv A outer s H E hr tk pw =>
  (sss_cons (ss_setDT (i := 2) (.inr rfl) sc_most_of.nd rfl (Or.inl rfl))
  (sss_cons (ss_for pw rfl (si_range1 (by rfl) T.m_range (sa_cons (SE.le (se_add (se_sub (se_len rfl T.m_len (sa_cons (se_vS 0 (pv 0) rfl) sa_nil)) (se_vS 1 (pv 1) rfl)) se_int) .vb) sa_nil)) (sgt_name (i := 3) (is := [3]) List.mem_cons_self rfl sc_most_of.nd rfl (Or.inl rfl)) (sss_cons (ss_setS (sg_of (i := 6) (se_tup1 rfl T.m_tuple (sa_cons (se_sl rfl (se_vS 0 (pv 0) rfl) (so_some (se_vS 3 (pv 3) rfl)) (so_some (se_add (se_vS 3 (pv 3) rfl) (se_vS 1 (pv 1) rfl)))) sa_nil)) sc_most_of.nd rfl (Or.inl rfl)) rfl)
  (sss_cons (ss_if (st_dnotin hr.units (SE.le (se_vS 6 (pv 6) rfl) .sb) (SE.le (se_vP 2 (pv 2) rfl) .lb)) (sss_one (ss_dputE (i := 2) hr.units (pv 2) rfl (se_vS 6 (pv 6) rfl))) sss_nil)
  (sss_one (ss_dapp (i := 2) hr.units rfl (pv 2) rfl (se_vS 6 (pv 6) rfl) (SE.le (SE.scal (se_vS 3 (pv 3) rfl)) .vn))))))
  (sss_seal (i := 2) (.inr rfl) (sss_cons (ss_setN (sg_of (i := 4) (SE.le (se_tup (sa_cons se_int (sa_cons se_int sa_nil))) .vn) sc_most_of.nd rfl (Or.inl rfl)) rfl)
  (sss_cons (ss_forV (i := 2) (j := 5) pw rfl (pv 2) rfl rfl sc_most_of.nd rfl (Or.inl rfl) (sss_cons (ss_setS (sg_of (i := 7) (se_add (se_vS 1 (pv 1) rfl) (SE.le (se_sum rfl rfl T.m_sum (sa_cons (SE.le (se_lc (c := .V) (own := [(Str.ofString "one", 8), (Str.ofString "other", 9)]) rfl (own2 rfl rfl) rfl sc_most_of.nd (SI.w (si_zip rfl (by rfl) T.m_zip (sa_cons (se_vS 5 (pv 5) rfl) (sa_cons (se_sl rfl (se_vS 5 (pv 5) rfl) (so_some se_int) so_none) sa_nil)))) (blkOk_by (own := [(Str.ofString "one", 8), (Str.ofString "other", 9)]) (N := N_most_of) (sc := (defScope s_most_of)) (by decide +kernel)) (fun _ _ _ _ _ => (sgt_tup (is := [8, 9]) (js := [8, 9]) rfl rfl (sgts_cons (i := 8) (by decide) rfl sc_most_of.nd rfl (Or.inl rfl) (sgts_cons (i := 9) (by decide) rfl sc_most_of.nd rfl (Or.inl rfl) sgts_nil)) rfl)) (fun _ _ _ _ _ => sts_nil) (fun _ _ _ _ _ => (se_min2 rfl T.m_min (sa_cons (SE.le (se_vS 1 (pv 1) rfl) .sb) (sa_cons (SE.le (se_sub (se_vS 9 (pv 9) rfl) (se_vS 8 (pv 8) rfl)) .vb) sa_nil))))) .vb) sa_nil)) .vs)) sc_most_of.nd rfl (Or.inl rfl)) rfl)
  (sss_one (ss_if (st_gt (se_vS 7 (pv 7) rfl) (se_ix rfl (se_vN 4 (pv 4) rfl) (SE.le se_int .vn) (fun _ _ => rfl))) (sss_one (ss_setN (sg_of (i := 4) (SE.le (SE.flat (se_tup (sa_cons (se_vS 7 (pv 7) rfl) (sa_cons (se_ix rfl (se_vS 5 (pv 5) rfl) (SE.le se_int .vs) (fun _ _ => rfl)) sa_nil)))) .vn) sc_most_of.nd rfl (Or.inl rfl)) rfl)) sss_nil))))
  (sss_one (ss_ret (SE.le (se_vN 4 (pv 4) rfl) .nl)))))))))
theorem ok_first_bare (T : Tp K mg) : FnOk P w K mg base (L2N.CX P w) 1 T.f_first_bare T.d_first_bare ps_first_bare (spP K (cvK K) 3 F_first_bare) :=
  fn_P N_first_bare ps_first_bare 5 3 (cf_first_bare K mg) B_first_bare rfl rfl T.F_first_bare sc_first_bare rfl (fun i h1 => by
    match i, h1 with
    | 0, _ => exact rfl
    | 1, _ => exact rfl
    | 2, _ => exact rfl
    | i + 3, h => exact absurd h (by simp)) (fun cdv A outer s H E hr tk pw =>
  (sss_cons (ss_setN (sg_of (i := 3) (SE.le se_int .vn) sc_first_bare.nd rfl (Or.inl rfl)) rfl)
  (sss_cons (ss_for pw rfl (si_list rfl (se_vS 1 (pv 1) rfl)) (sgt_name (i := 4) (is := [4]) List.mem_cons_self rfl sc_first_bare.nd rfl (Or.inl rfl)) (sss_one (ss_if (st_le (se_vS 4 (pv 4) rfl) (se_vN 3 (pv 3) rfl)) (sss_one (ss_setN (sg_of (i := 3) (SE.le (se_max2 rfl T.m_max (sa_cons (SE.le (se_vN 3 (pv 3) rfl) .nb) (sa_cons (SE.le (se_add (se_vS 4 (pv 4) rfl) (se_vS 0 (pv 0) rfl)) .sb) sa_nil))) .vn) sc_first_bare.nd rfl (Or.inl rfl)) rfl)) sss_nil)))
  (sss_cons (ss_if (st_lt (se_vN 3 (pv 3) rfl) (se_vS 2 (pv 2) rfl)) (sss_one (ss_ret (SE.le (se_vN 3 (pv 3) rfl) .nl))) sss_nil)
  (sss_one (ss_ret (SE.le se_non .vl)))))))
theorem ok__law_cell_at (T : Tp K mg) : FnOk P w K mg base (L2N.CX P w) 1 T.f__law_cell_at T.d__law_cell_at ps__law_cell_at (spQ K (cvK K) 2 F__law_cell_at) :=
  fn_Q N__law_cell_at ps__law_cell_at 2 2 (cf__law_cell_at K mg) B__law_cell_at rfl rfl T.F__law_cell_at sc__law_cell_at rfl rfl (fun i h1 h2 => by
    match i, h1, h2 with
    | 1, _, _ => exact rfl
    | i + 2, _, h => exact absurd h (by simp)) (fun cdv A outer s H E hr tk pw =>
  (sss_cons (ss_if (st_lt (se_vS 1 (pv 1) rfl) (se_lenQ rfl T.m_len (pv 0) rfl)) (sss_one (ss_ret (SE.le (se_ixQ rfl (pv 0) rfl (se_vS 1 (pv 1) rfl) (fun _ _ => rfl)) .vl))) sss_nil)
  (sss_one (ss_ret (SE.le se_int .vl)))))
theorem ok__law_deck (T : Tp K mg) : FnOk P w K mg base (L2N.CX P w) 1 T.f__law_deck T.d__law_deck ps__law_deck (spP K (cvK K) 1 F__law_deck) :=
  fn_P N__law_deck ps__law_deck 1 1 (cf__law_deck K mg) B__law_deck rfl rfl T.F__law_deck sc__law_deck rfl (fun i h1 => by
    match i, h1 with
    | 0, _ => exact rfl
    | i + 1, h => exact absurd h (by simp)) (fun cdv A outer s H E hr tk pw =>
  (sss_one (ss_ret (SE.le (se_lst (sa_cons (se_max2 rfl T.m_max (sa_cons (SE.le se_int .vb) (sa_cons (SE.le (se_sub (se_vS 0 (pv 0) rfl) (se_pow se_int se_int)) .vb) sa_nil))) (sa_cons (se_mod (se_vS 0 (pv 0) rfl) se_int) (sa_cons se_int sa_nil)))) .vl))))
theorem ok__law_take (T : Tp K mg) : FnOk P w K mg base (L2N.CX P w) 1 T.f__law_take T.d__law_take ps__law_take (spW K (cvK K) 2 F__law_take_v3) :=
  fn_W N__law_take ps__law_take 4 2 (cf__law_take K mg) B__law_take_v3 rfl rfl T.F__law_take sc__law_take rfl rfl (fun i h1 h2 => by
    match i, h1, h2 with
    | 1, _, _ => exact rfl
    | i + 2, _, h => exact absurd h (by simp)) (fun cdv A outer s H E hr tk pw =>
  (sss_cons (ss_putW (i := 0) (pv 0) rfl (SE.le (se_add (se_ixW rfl (pv 0) rfl se_int (fun _ _ => rfl)) se_int) .vb) (SE.le se_int .vb))
  (sss_cons (ss_if (st_gt (se_ixW rfl (pv 0) rfl se_int (fun _ _ => rfl)) se_int) (sss_cons (ss_setS (sg_of (i := 3) (SE.le (se_mod (se_ixW rfl (pv 0) rfl se_int (fun _ _ => rfl)) se_int) .vs) sc__law_take.nd rfl (Or.inl rfl)) rfl)
  (sss_cons (ss_putW (i := 0) (pv 0) rfl (SE.le (se_fdiv (se_ixW rfl (pv 0) rfl se_int (fun _ _ => rfl)) se_int) .vb) (SE.le se_int .vb))
  (sss_one (ss_ret (SE.le (se_mod (se_vS 3 (pv 3) rfl) (se_vS 1 (pv 1) rfl)) .vl))))) sss_nil)
  (sss_cons (ss_setS (sg_of (i := 2) (SE.le (se_mod (se_mul (se_add (se_ixW rfl (pv 0) rfl se_int (fun _ _ => rfl)) (se_mul se_int (se_ixW rfl (pv 0) rfl se_int (fun _ _ => rfl)))) se_int) se_int) .vs) sc__law_take.nd rfl (Or.inl rfl)) rfl)
  (sss_cons (ss_setS (sg_of (i := 2) (SE.le (se_mod (se_mul (se_vS 2 (pv 2) rfl) (se_vS 2 (pv 2) rfl)) se_int) .vs) sc__law_take.nd rfl (Or.inl rfl)) rfl)
  (sss_one (ss_ret (SE.le (se_mod (se_fdiv (se_mod (se_mul (se_add (se_vS 2 (pv 2) rfl) (SE.le (se_mul se_int (se_ixW rfl (pv 0) rfl se_int (fun _ _ => rfl))) .vs)) (SE.le se_int .vs)) se_int) se_int) (se_vS 1 (pv 1) rfl)) .vl))))))))
theorem ok__law_renamed (T : Tp K mg) : FnOk P w K mg base (L2N.CX P w) 1 T.f__law_renamed T.d__law_renamed ps__law_renamed (spP K (cvK K) 3 F__law_renamed) :=
  fn_P N__law_renamed ps__law_renamed 5 3 (cf__law_renamed K mg) B__law_renamed rfl rfl T.F__law_renamed sc__law_renamed rfl (fun i h1 => by
    match i, h1 with
    | 0, _ => exact rfl
    | 1, _ => exact rfl
    | 2, _ => exact rfl
    | i + 3, h => exact absurd h (by simp)) (fun cdv A outer s H E hr tk pw =>
  (sss_cons (ss_setS (sg_of (i := 3) (SE.le se_str .vs) sc__law_renamed.nd rfl (Or.inr rfl)) rfl)
  (sss_one (ss_ret (SE.le (SE.flat (se_lc (c := .S) (own := [(Str.ofString "sign", 4)]) rfl (own1 rfl) rfl sc__law_renamed.nd (SI.w (si_list rfl (se_vS 0 (pv 0) rfl))) (blkOk_by (own := [(Str.ofString "sign", 4)]) (N := N__law_renamed) (sc := (defScope s__law_renamed)) (by decide +kernel)) (fun _ _ _ _ _ => (sgt_name (i := 4) (is := [4]) List.mem_cons_self rfl sc__law_renamed.nd rfl (Or.inl rfl))) (fun _ _ _ _ _ => sts_nil) (fun _ _ _ _ _ => (se_ix rfl (se_vS 3 (pv 3) rfl) (SE.le (se_mod (se_add (se_mul (se_vS 2 (pv 2) rfl) (SE.le (se_sindex rfl (se_vS 3 (pv 3) rfl) (sa_cons (se_vS 4 (pv 4) rfl) sa_nil)) .vs)) (se_vS 1 (pv 1) rfl)) se_int) .vs) (fun _ _ => rfl))))) .vl)))))
theorem ok_borders (T : Tp K mg) : FnOk P w K mg base (L2N.CX P w) 2 T.f_borders T.d_borders ps_borders (spP K (cvK K) 1 F_borders) :=
  fn_P N_borders ps_borders 4 1 (cf_borders K mg) B_borders rfl rfl T.F_borders sc_borders rfl (fun i h1 => by
    match i, h1 with
    | 0, _ => exact rfl
    | i + 1, h => exact absurd h (by simp)) (fun cdv A outer s H E hr tk pw =>
  (sss_cons (ss_expr (se_call rfl tk (ok_need_signs T) hr (by rfl) T.g_need_signs T.F_need_signs.kp T.b_need_signs (sa_cons (SE.le (se_vS 0 (pv 0) rfl) .sb) sa_nil) (fun _ _ _ => aLen_cons (fun _ _ _ => aLen_nil))))
  (sss_cons (ss_setM (sg_of (i := 1) (se_lst (c := .V) sa_nil) sc_borders.nd rfl (Or.inl rfl)) rfl)
  (sss_cons (ss_if (st_ne rfl hr.units (se_vS 0 (pv 0) rfl) (se_lst (c := .V) sa_nil)) (sss_cons (ss_setS (sg_of (i := 2) (SE.le (se_call rfl tk (ok_greatest_borders T) hr (by rfl) T.g_greatest_borders T.F_greatest_borders.kp T.b_greatest_borders (sa_cons (SE.le (se_vS 0 (pv 0) rfl) .sb) sa_nil) (fun _ _ _ => aLen_cons (fun _ _ _ => aLen_nil))) .vs) sc_borders.nd rfl (Or.inl rfl)) rfl)
  (sss_cons (ss_setS (sg_of (i := 3) (se_ix rfl (se_vS 2 (pv 2) rfl) (SE.le (se_neg se_int) .vs) (fun _ _ => rfl)) sc_borders.nd rfl (Or.inl rfl)) rfl)
  (sss_cons (ss_while WFUEL pw (st_gt (se_vS 3 (pv 3) rfl) se_int) (sss_cons (ss_app (i := 1) rfl (pv 1) rfl (SE.le (SE.scal (se_vS 3 (pv 3) rfl)) .vn))
  (sss_one (ss_setS (sg_of (i := 3) (se_ix rfl (se_vS 2 (pv 2) rfl) (SE.le (se_sub (se_vS 3 (pv 3) rfl) se_int) .vs) (fun _ _ => rfl)) sc_borders.nd rfl (Or.inl rfl)) rfl))))
  (sss_one (ss_app (i := 1) rfl (pv 1) rfl (SE.le se_int .vn)))))) sss_nil)
  (sss_one (ss_ret (se_rev rfl (se_vM 1 (pv 1) rfl))))))))
theorem ok_lies_at (T : Tp K mg) : FnOk P w K mg base (L2N.CX P w) 2 T.f_lies_at T.d_lies_at ps_lies_at (spP K (cvK K) 2 F_lies_at) :=
  fn_P N_lies_at ps_lies_at 2 2 (cf_lies_at K mg) B_lies_at rfl rfl T.F_lies_at sc_lies_at rfl (fun i h1 => by
    match i, h1 with
    | 0, _ => exact rfl
    | 1, _ => exact rfl
    | i + 2, h => exact absurd h (by simp)) (fun cdv A outer s H E hr tk pw =>
  (sss_cons (ss_expr (se_call rfl tk (ok_need_word T) hr (by rfl) T.g_need_word T.F_need_word.kp T.b_need_word (sa_cons (SE.le (se_vS 1 (pv 1) rfl) .sb) sa_nil) (fun _ _ _ => aLen_cons (fun _ _ _ => aLen_nil))))
  (sss_cons (ss_expr (se_call rfl tk (ok_need_signs T) hr (by rfl) T.g_need_signs T.F_need_signs.kp T.b_need_signs (sa_cons (SE.le (se_add (se_vS 0 (pv 0) rfl) (se_vS 1 (pv 1) rfl)) .sb) sa_nil) (fun _ _ _ => aLen_cons (fun _ _ _ => aLen_nil))))
  (sss_one (ss_ret (SE.le (se_call rfl tk (ok_laid_at T) hr (by rfl) T.g_laid_at T.F_laid_at.kp T.b_laid_at (sa_cons (SE.le (se_vS 0 (pv 0) rfl) .sb) (sa_cons (SE.le (se_vS 1 (pv 1) rfl) .sb) sa_nil)) (fun _ _ _ => aLen_cons (fun _ _ _ => aLen_cons (fun _ _ _ => aLen_nil)))) .vl))))))
theorem ok_how_covered (T : Tp K mg) : FnOk P w K mg base (L2N.CX P w) 2 T.f_how_covered T.d_how_covered ps_how_covered (spP K (cvK K) 2 F_how_covered_v2) :=
  fn_P N_how_covered ps_how_covered 7 2 (cf_how_covered K mg) B_how_covered_v2 rfl rfl T.F_how_covered sc_how_covered rfl (fun i h1 => by
    match i, h1 with
    | 0, _ => exact rfl
    | 1, _ => exact rfl
    | i + 2, h => exact absurd h (by simp)) (fun cdv A outer s H E hr tk pw =>
  (sss_cons (ss_expr (se_call rfl tk (ok_need_word T) hr (by rfl) T.g_need_word T.F_need_word.kp T.b_need_word (sa_cons (SE.le (se_vS 1 (pv 1) rfl) .sb) sa_nil) (fun _ _ _ => aLen_cons (fun _ _ _ => aLen_nil))))
  (sss_cons (ss_expr (se_call rfl tk (ok_need_signs T) hr (by rfl) T.g_need_signs T.F_need_signs.kp T.b_need_signs (sa_cons (SE.le (se_vS 1 (pv 1) rfl) .sb) sa_nil) (fun _ _ _ => aLen_cons (fun _ _ _ => aLen_nil))))
  (sss_cons (ss_expr (se_call rfl tk (ok_need_signs T) hr (by rfl) T.g_need_signs T.F_need_signs.kp T.b_need_signs (sa_cons (SE.le (se_vS 0 (pv 0) rfl) .sb) sa_nil) (fun _ _ _ => aLen_cons (fun _ _ _ => aLen_nil))))
  (sss_cons (ss_setM (sg_of (i := 2) (se_lst (c := .V) sa_nil) sc_how_covered.nd rfl (Or.inl rfl)) rfl)
  (sss_cons (ss_setS (sg_of (i := 3) (SE.le se_int .vs) sc_how_covered.nd rfl (Or.inl rfl)) rfl)
  (sss_cons (ss_for pw rfl (si_list rfl (SE.le (se_add (se_call rfl tk (ok_laid_at T) hr (by rfl) T.g_laid_at T.F_laid_at.kp T.b_laid_at (sa_cons (SE.le (se_vS 0 (pv 0) rfl) .sb) (sa_cons (SE.le (se_vS 1 (pv 1) rfl) .sb) sa_nil)) (fun _ _ _ => aLen_cons (fun _ _ _ => aLen_cons (fun _ _ _ => aLen_nil)))) (se_lst (sa_cons (se_len rfl T.m_len (sa_cons (se_vS 0 (pv 0) rfl) sa_nil)) sa_nil))) .vs)) (sgt_name (i := 4) (is := [4]) List.mem_cons_self rfl sc_how_covered.nd rfl (Or.inl rfl)) (sss_cons (ss_if (st_gt (se_vS 4 (pv 4) rfl) (se_vS 3 (pv 3) rfl)) (sss_one (ss_app (i := 2) rfl (pv 2) rfl (SE.le (SE.flat (se_tup (sa_cons (se_vS 3 (pv 3) rfl) (sa_cons (se_vS 4 (pv 4) rfl) sa_nil)))) .vn))) sss_nil)
  (sss_one (ss_setS (sg_of (i := 3) (se_add (se_vS 4 (pv 4) rfl) (SE.le (se_len rfl T.m_len (sa_cons (se_vS 1 (pv 1) rfl) sa_nil)) .vs)) sc_how_covered.nd rfl (Or.inl rfl)) rfl))))
  (sss_seal (i := 2) (.inl rfl) (sss_one (ss_ret (SE.le (se_tup (sa_cons (SE.le (se_sub (se_len rfl T.m_len (sa_cons (se_vS 0 (pv 0) rfl) sa_nil)) (se_sum rfl rfl T.m_sum (sa_cons (SE.le (se_lc (c := .V) (own := [(Str.ofString "begin", 5), (Str.ofString "end", 6)]) rfl (own2 rfl rfl) rfl sc_how_covered.nd (SI.w (si_list rfl (SE.le (se_vN 2 (pv 2) rfl) .ns))) (blkOk_by (own := [(Str.ofString "begin", 5), (Str.ofString "end", 6)]) (N := N_how_covered) (sc := (defScope s_how_covered)) (by decide +kernel)) (fun _ _ _ _ _ => (sgt_tup (is := [5, 6]) (js := [5, 6]) rfl rfl (sgts_cons (i := 5) (by decide) rfl sc_how_covered.nd rfl (Or.inl rfl) (sgts_cons (i := 6) (by decide) rfl sc_how_covered.nd rfl (Or.inl rfl) sgts_nil)) rfl)) (fun _ _ _ _ _ => sts_nil) (fun _ _ _ _ _ => (se_sub (se_vS 6 (pv 6) rfl) (se_vS 5 (pv 5) rfl)))) .vb) sa_nil))) .vn) (sa_cons (se_vN 2 (pv 2) rfl) sa_nil))) .nl)))))))))))
theorem ok_most_covering (T : Tp K mg) : FnOk P w K mg base (L2N.CX P w) 2 T.f_most_covering T.d_most_covering ps_most_covering (spP K (cvK K) 2 F_most_covering) :=
  fn_P N_most_covering ps_most_covering 2 2 (cf_most_covering K mg) B_most_covering rfl rfl T.F_most_covering sc_most_covering rfl (fun i h1 => by
    match i, h1 with
    | 0, _ => exact rfl
    | 1, _ => exact rfl
    | i + 2, h => exact absurd h (by simp)) (fun cdv A outer s H E hr tk pw =>
  (sss_cons (ss_expr (se_call rfl tk (ok_need_signs T) hr (by rfl) T.g_need_signs T.F_need_signs.kp T.b_need_signs (sa_cons (SE.le (se_vS 0 (pv 0) rfl) .sb) sa_nil) (fun _ _ _ => aLen_cons (fun _ _ _ => aLen_nil))))
  (sss_cons (ss_expr (se_call rfl tk (ok_need_number T) hr (by rfl) T.g_need_number T.F_need_number.kp T.b_need_number (sa_cons (SE.le (se_chain op_le op_le se_int (se_vS 1 (pv 1) rfl) (se_len rfl T.m_len (sa_cons (se_vS 0 (pv 0) rfl) sa_nil))) .vb) sa_nil) (fun _ _ _ => aLen_cons (fun _ _ _ => aLen_nil))))
  (sss_one (ss_ret (SE.le (se_call rfl tk (ok_most_of T) hr (by rfl) T.g_most_of T.F_most_of.kp T.b_most_of (sa_cons (SE.le (se_vS 0 (pv 0) rfl) .sb) (sa_cons (SE.le (se_vS 1 (pv 1) rfl) .sb) sa_nil)) (fun _ _ _ => aLen_cons (fun _ _ _ => aLen_cons (fun _ _ _ => aLen_nil)))) .vl))))))
theorem ok_length_for (T : Tp K mg) : FnOk P w K mg base (L2N.CX P w) 2 T.f_length_for T.d_length_for ps_length_for (spP K (cvK K) 2 F_length_for) :=
  fn_P N_length_for ps_length_for 3 2 (cf_length_for K mg) B_length_for rfl rfl T.F_length_for sc_length_for rfl (fun i h1 => by
    match i, h1 with
    | 0, _ => exact rfl
    | 1, _ => exact rfl
    | i + 2, h => exact absurd h (by simp)) (fun cdv A outer s H E hr tk pw =>
  (sss_cons (ss_expr (se_call rfl tk (ok_need_signs T) hr (by rfl) T.g_need_signs T.F_need_signs.kp T.b_need_signs (sa_cons (SE.le (se_vS 0 (pv 0) rfl) .sb) sa_nil) (fun _ _ _ => aLen_cons (fun _ _ _ => aLen_nil))))
  (sss_cons (ss_expr (se_call rfl tk (ok_need_text T) hr (by rfl) T.g_need_text T.F_need_text.kp T.b_need_text (sa_cons (SE.le (se_vS 0 (pv 0) rfl) .sb) sa_nil) (fun _ _ _ => aLen_cons (fun _ _ _ => aLen_nil))))
  (sss_cons (ss_expr (se_call rfl tk (ok_need_number T) hr (by rfl) T.g_need_number T.F_need_number.kp T.b_need_number (sa_cons (SE.le (se_chain op_le op_le se_int (se_vS 1 (pv 1) rfl) (se_len rfl T.m_len (sa_cons (se_vS 0 (pv 0) rfl) sa_nil))) .vb) sa_nil) (fun _ _ _ => aLen_cons (fun _ _ _ => aLen_nil))))
  (sss_cons (ss_setN (sg_of (i := 2) (SE.le (se_len rfl T.m_len (sa_cons (se_vS 0 (pv 0) rfl) sa_nil)) .vn) sc_length_for.nd rfl (Or.inl rfl)) rfl)
  (sss_cons (ss_while WFUEL pw (st_and2 (st_gt (se_vN 2 (pv 2) rfl) se_int) (st_ge (se_ix rfl (se_call rfl tk (ok_most_of T) hr (by rfl) T.g_most_of T.F_most_of.kp T.b_most_of (sa_cons (SE.le (se_vS 0 (pv 0) rfl) .sb) (sa_cons (SE.le (se_sub (se_vN 2 (pv 2) rfl) se_int) .vb) sa_nil)) (fun _ _ _ => aLen_cons (fun _ _ _ => aLen_cons (fun _ _ _ => aLen_nil)))) se_int (fun _ _ => rfl)) (se_vS 1 (pv 1) rfl))) (sss_one (ss_isub (i := 2) (Or.inr rfl) se_int sc_length_for.nd rfl (Or.inl rfl))))
  (sss_one (ss_ret (SE.le (se_vN 2 (pv 2) rfl) .nl)))))))))
theorem ok_need_both (T : Tp K mg) : FnOk P w K mg base (L2N.CX P w) 2 T.f_need_both T.d_need_both ps_need_both (spP K (cvK K) 2 F_need_both) :=
  fn_P N_need_both ps_need_both 2 2 (cf_need_both K mg) B_need_both rfl rfl T.F_need_both sc_need_both rfl (fun i h1 => by
    match i, h1 with
    | 0, _ => exact rfl
    | 1, _ => exact rfl
    | i + 2, h => exact absurd h (by simp)) (fun cdv A outer s H E hr tk pw =>
  (sss_cons (ss_expr (se_call rfl tk (ok_need_word T) hr (by rfl) T.g_need_word T.F_need_word.kp T.b_need_word (sa_cons (SE.le (se_vS 1 (pv 1) rfl) .sb) sa_nil) (fun _ _ _ => aLen_cons (fun _ _ _ => aLen_nil))))
  (sss_cons (ss_expr (se_call rfl tk (ok_need_signs T) hr (by rfl) T.g_need_signs T.F_need_signs.kp T.b_need_signs (sa_cons (SE.le (se_add (se_vS 0 (pv 0) rfl) (se_vS 1 (pv 1) rfl)) .sb) sa_nil) (fun _ _ _ => aLen_cons (fun _ _ _ => aLen_nil))))
  (sss_one (ss_expr (se_call rfl tk (ok_need_text T) hr (by rfl) T.g_need_text T.F_need_text.kp T.b_need_text (sa_cons (SE.le (se_vS 0 (pv 0) rfl) .sb) sa_nil) (fun _ _ _ => aLen_cons (fun _ _ _ => aLen_nil))))))))
theorem ok__law_letters (T : Tp K mg) : FnOk P w K mg base (L2N.CX P w) 2 T.f__law_letters T.d__law_letters ps__law_letters (spW K (cvK K) 1 F__law_letters_v3) :=
  fn_W N__law_letters ps__law_letters 6 1 (cf__law_letters K mg) B__law_letters_v3 rfl rfl T.F__law_letters sc__law_letters rfl rfl (fun i h1 h2 => by
    match i, h1, h2 with
    | i + 1, _, h => exact absurd h (by simp)) (fun cdv A outer s H E hr tk pw =>
  (sss_cons (ss_setS (sg_of (i := 1) (SE.le se_str .vs) sc__law_letters.nd rfl (Or.inr rfl)) rfl)
  (sss_cons (ss_setS (sg_of (i := 2) (SE.le (se_callW rfl tk (ok__law_take T) hr (by rfl) T.g__law_take T.F__law_take.kp T.b__law_take rfl (pv 0) (sa_cons (SE.le se_int .vb) sa_nil) (aLen1 (fun _ _ _ => aLen_cons (fun _ _ _ => aLen_nil)))) .vs) sc__law_letters.nd rfl (Or.inr rfl)) rfl)
  (sss_cons (ss_setS (sg_of (i := 3) (SE.le (se_ix rfl (se_lst (sa_cons se_int (sa_cons se_int (sa_cons se_int (sa_cons se_int (sa_cons se_int (sa_cons se_int (sa_cons se_int (sa_cons se_int (sa_cons se_int (sa_cons se_int (sa_cons se_int (sa_cons se_int sa_nil))))))))))))) (se_callW rfl tk (ok__law_take T) hr (by rfl) T.g__law_take T.F__law_take.kp T.b__law_take rfl (pv 0) (sa_cons (SE.le se_int .vb) sa_nil) (aLen1 (fun _ _ _ => aLen_cons (fun _ _ _ => aLen_nil)))) (fun _ _ => rfl)) .vs) sc__law_letters.nd rfl (Or.inr rfl)) rfl)
  (sss_cons (ss_setS (sg_of (i := 4) (SE.le (se_ix rfl (se_lst (sa_cons se_int (sa_cons se_int (sa_cons se_int (sa_cons se_int (sa_cons se_int (sa_cons se_int sa_nil))))))) (se_callW rfl tk (ok__law_take T) hr (by rfl) T.g__law_take T.F__law_take.kp T.b__law_take rfl (pv 0) (sa_cons (SE.le se_int .vb) sa_nil) (aLen1 (fun _ _ _ => aLen_cons (fun _ _ _ => aLen_nil)))) (fun _ _ => rfl)) .vs) sc__law_letters.nd rfl (Or.inl rfl)) rfl)
  (sss_one (ss_ret (SE.le (SE.flat (se_lc (c := .S) (own := [(Str.ofString "k", 5)]) rfl (own1 rfl) rfl sc__law_letters.nd (SI.w (si_range1 (by rfl) T.m_range (sa_cons (SE.le (se_vS 4 (pv 4) rfl) .sb) sa_nil))) (blkOk_by (own := [(Str.ofString "k", 5)]) (N := N__law_letters) (sc := (defScope s__law_letters)) (by decide +kernel)) (fun _ _ _ _ _ => (sgt_name (i := 5) (is := [5]) List.mem_cons_self rfl sc__law_letters.nd rfl (Or.inl rfl))) (fun _ _ _ _ _ => sts_nil) (fun _ _ _ _ _ => (se_ix rfl (se_vS 1 (pv 1) rfl) (SE.le (se_mod (se_add (se_vS 2 (pv 2) rfl) (se_mul (se_vS 3 (pv 3) rfl) (se_vS 5 (pv 5) rfl))) se_int) .vs) (fun _ _ => rfl))))) .vl))))))))
theorem ok__law_signs (T : Tp K mg) : FnOk P w K mg base (L2N.CX P w) 2 T.f__law_signs T.d__law_signs ps__law_signs (spW K (cvK K) 3 F__law_signs_v3) :=
  fn_W N__law_signs ps__law_signs 4 3 (cf__law_signs K mg) B__law_signs_v3 rfl rfl T.F__law_signs sc__law_signs rfl rfl (fun i h1 h2 => by
    match i, h1, h2 with
    | 1, _, _ => exact rfl
    | 2, _, _ => exact rfl
    | i + 3, _, h => exact absurd h (by simp)) (fun cdv A outer s H E hr tk pw =>
  (sss_one (ss_ret (SE.le (SE.flat (se_lc (c := .S) (own := [(Str.ofString "k", 3)]) rfl (own1 rfl) rfl sc__law_signs.nd (SI.w (si_range1 (by rfl) T.m_range (sa_cons (SE.le (se_vS 2 (pv 2) rfl) .sb) sa_nil))) (blkOk_by (own := [(Str.ofString "k", 3)]) (N := N__law_signs) (sc := (defScope s__law_signs)) (by decide +kernel)) (fun _ _ _ _ _ => (sgt_name (i := 3) (is := [3]) List.mem_cons_self rfl sc__law_signs.nd rfl (Or.inl rfl))) (fun _ _ _ _ _ => sts_nil) (fun _ _ _ _ _ => (se_ix rfl (se_vS 1 (pv 1) rfl) (SE.le (se_callW rfl takes0N (ok__law_take T) hr (by rfl) T.g__law_take T.F__law_take.kp T.b__law_take rfl (pv 0) (sa_cons (SE.le (se_len rfl T.m_len (sa_cons (se_vS 1 (pv 1) rfl) sa_nil)) .vb) sa_nil) (aLen1 (fun _ _ _ => aLen_cons (fun _ _ _ => aLen_nil)))) .vs) (fun _ _ => rfl))))) .vl))))
theorem ok_covered (T : Tp K mg) : FnOk P w K mg base (L2N.CX P w) 3 T.f_covered T.d_covered ps_covered (spP K (cvK K) 2 F_covered) :=
  fn_P N_covered ps_covered 4 2 (cf_covered K mg) B_covered rfl rfl T.F_covered sc_covered rfl (fun i h1 => by
    match i, h1 with
    | 0, _ => exact rfl
    | 1, _ => exact rfl
    | i + 2, h => exact absurd h (by simp)) (fun cdv A outer s H E hr tk pw =>
  (sss_cons (ss_expr (se_call rfl tk (ok_need_both T) hr (by rfl) T.g_need_both T.F_need_both.kp T.b_need_both (sa_cons (SE.le (se_vS 0 (pv 0) rfl) .sb) (sa_cons (SE.le (se_vS 1 (pv 1) rfl) .sb) sa_nil)) (fun _ _ _ => aLen_cons (fun _ _ _ => aLen_cons (fun _ _ _ => aLen_nil)))))
  (sss_cons (ss_setN (sg_of (i := 2) (SE.le (se_call rfl tk (ok_lies_at T) hr (by rfl) T.g_lies_at T.F_lies_at.kp T.b_lies_at (sa_cons (SE.le (se_vS 0 (pv 0) rfl) .sb) (sa_cons (SE.le (se_vS 1 (pv 1) rfl) .sb) sa_nil)) (fun _ _ _ => aLen_cons (fun _ _ _ => aLen_cons (fun _ _ _ => aLen_nil)))) .vn) sc_covered.nd rfl (Or.inl rfl)) rfl)
  (sss_cons (ss_setN (sg_of (i := 3) (SE.le (se_call rfl tk (ok_first_bare T) (hr.mono (by decide : 1 ≤ 2)) (by rfl) T.g_first_bare T.F_first_bare.kp T.b_first_bare (sa_cons (SE.le (se_len rfl T.m_len (sa_cons (se_vS 1 (pv 1) rfl) sa_nil)) .vb) (sa_cons (SE.le (se_vN 2 (pv 2) rfl) .nb) (sa_cons (SE.le (se_len rfl T.m_len (sa_cons (se_vS 0 (pv 0) rfl) sa_nil)) .vb) sa_nil))) (fun _ _ _ => aLen_cons (fun _ _ _ => aLen_cons (fun _ _ _ => aLen_cons (fun _ _ _ => aLen_nil))))) .vn) sc_covered.nd rfl (Or.inl rfl)) rfl)
  (sss_cons (ss_if (st_isN (se_vN 3 (pv 3) rfl) se_non) (sss_one (ss_ret (SE.le (se_tup (sa_cons (SE.le se_str .vn) (sa_cons (se_vN 2 (pv 2) rfl) sa_nil))) .nl))) sss_nil)
  (sss_one (ss_ret (SE.le (se_tup (sa_cons (SE.le se_str .vn) (sa_cons (se_vN 3 (pv 3) rfl) sa_nil))) .nl))))))))
theorem ok__law_word (T : Tp K mg) : FnOk P w K mg base (L2N.CX P w) 3 T.f__law_word T.d__law_word ps__law_word (spW K (cvK K) 3 F__law_word_v4) :=
  fn_W N__law_word ps__law_word 5 3 (cf__law_word K mg) B__law_word_v4 rfl rfl T.F__law_word sc__law_word rfl rfl (fun i h1 h2 => by
    match i, h1, h2 with
    | 1, _, _ => exact rfl
    | 2, _, _ => exact rfl
    | i + 3, _, h => exact absurd h (by simp)) (fun cdv A outer s H E hr tk pw =>
  (sss_cons (ss_setS (sg_of (i := 3) (SE.le (se_callW rfl tk (ok__law_take T) (hr.mono (by decide : 1 ≤ 2)) (by rfl) T.g__law_take T.F__law_take.kp T.b__law_take rfl (pv 0) (sa_cons (SE.le se_int .vb) sa_nil) (aLen1 (fun _ _ _ => aLen_cons (fun _ _ _ => aLen_nil)))) .vs) sc__law_word.nd rfl (Or.inl rfl)) rfl)
  (sss_cons (ss_setN (sg_of (i := 4) (SE.le (se_callW rfl tk (ok__law_signs T) hr (by rfl) T.g__law_signs T.F__law_signs.kp T.b__law_signs rfl (pv 0) (sa_cons (SE.le (se_vS 1 (pv 1) rfl) .sb) (sa_cons (SE.le (se_add se_int (se_callW rfl tk (ok__law_take T) (hr.mono (by decide : 1 ≤ 2)) (by rfl) T.g__law_take T.F__law_take.kp T.b__law_take rfl (pv 0) (sa_cons (SE.le (se_vS 2 (pv 2) rfl) .sb) sa_nil) (aLen1 (fun _ _ _ => aLen_cons (fun _ _ _ => aLen_nil))))) .vb) sa_nil)) (aLen1 (fun _ _ _ => aLen_cons (fun _ _ _ => aLen_cons (fun _ _ _ => aLen_nil))))) .vn) sc__law_word.nd rfl (Or.inl rfl)) rfl)
  (sss_cons (ss_if (st_eq rfl hr.units (se_vS 3 (pv 3) rfl) se_int) (sss_one (ss_setN (sg_of (i := 4) (se_add (se_add (se_vN 4 (pv 4) rfl) (SE.le (se_callW rfl tk (ok__law_signs T) hr (by rfl) T.g__law_signs T.F__law_signs.kp T.b__law_signs rfl (pv 0) (sa_cons (SE.le (se_vS 1 (pv 1) rfl) .sb) (sa_cons (SE.le (se_callW rfl tk (ok__law_take T) (hr.mono (by decide : 1 ≤ 2)) (by rfl) T.g__law_take T.F__law_take.kp T.b__law_take rfl (pv 0) (sa_cons (SE.le se_int .vb) sa_nil) (aLen1 (fun _ _ _ => aLen_cons (fun _ _ _ => aLen_nil)))) .vb) sa_nil)) (aLen1 (fun _ _ _ => aLen_cons (fun _ _ _ => aLen_cons (fun _ _ _ => aLen_nil))))) .vn)) (se_vN 4 (pv 4) rfl)) sc__law_word.nd rfl (Or.inl rfl)) rfl)) sss_nil)
  (sss_cons (ss_if (st_eq rfl hr.units (se_vS 3 (pv 3) rfl) se_int) (sss_one (ss_setN (sg_of (i := 4) (se_add (se_mul (se_vN 4 (pv 4) rfl) (SE.le (se_add se_int (se_callW rfl tk (ok__law_take T) (hr.mono (by decide : 1 ≤ 2)) (by rfl) T.g__law_take T.F__law_take.kp T.b__law_take rfl (pv 0) (sa_cons (SE.le se_int .vb) sa_nil) (aLen1 (fun _ _ _ => aLen_cons (fun _ _ _ => aLen_nil))))) .vn)) (se_sl rfl (se_vN 4 (pv 4) rfl) so_none (so_some (se_callW rfl tk (ok__law_take T) (hr.mono (by decide : 1 ≤ 2)) (by rfl) T.g__law_take T.F__law_take.kp T.b__law_take rfl (pv 0) (sa_cons (SE.le (se_add (se_len rfl T.m_len (sa_cons (se_vN 4 (pv 4) rfl) sa_nil)) se_int) .vb) sa_nil) (aLen1 (fun _ _ _ => aLen_cons (fun _ _ _ => aLen_nil))))))) sc__law_word.nd rfl (Or.inl rfl)) rfl)) sss_nil)
  (sss_one (ss_ret (SE.le (se_vN 4 (pv 4) rfl) .nl))))))))
theorem ok__law_overlaid (T : Tp K mg) : FnOk P w K mg base (L2N.CX P w) 3 T.f__law_overlaid T.d__law_overlaid ps__law_overlaid (spW K (cvK K) 4 F__law_overlaid_v2) :=
  fn_W N__law_overlaid ps__law_overlaid 9 4 (cf__law_overlaid K mg) B__law_overlaid_v2 rfl rfl T.F__law_overlaid sc__law_overlaid rfl rfl (fun i h1 h2 => by
    match i, h1, h2 with
    | 1, _, _ => exact rfl
    | 2, _, _ => exact rfl
    | 3, _, _ => exact rfl
    | i + 4, _, h => exact absurd h (by simp)) (fun cdv A outer s H E hr tk pw =>
  (sss_cons (ss_setN (sg_of (i := 4) (SE.le (SE.flat (se_list1 rfl T.m_list (sa_cons (se_vS 2 (pv 2) rfl) sa_nil))) .vn) sc__law_overlaid.nd rfl (Or.inr rfl)) rfl)
  (sss_cons (ss_for pw rfl (si_range1 (by rfl) T.m_range (sa_cons (SE.le (se_vS 3 (pv 3) rfl) .sb) sa_nil)) (sgt_name (i := 5) (is := [5]) List.mem_cons_self rfl sc__law_overlaid.nd rfl (Or.inl rfl)) (sss_cons (ss_setS (sg_lc (i := 6) (c := .S) (own := [(Str.ofString "j", 8)]) rfl (own1 rfl) rfl sc__law_overlaid.nd rfl rfl (sw_true rfl rfl rfl (by decide +kernel)) (SI.w (si_range1 (by rfl) T.m_range (sa_cons (SE.le (se_len rfl T.m_len (sa_cons (se_vS 2 (pv 2) rfl) sa_nil)) .vb) sa_nil))) (blkOk_by (own := [(Str.ofString "j", 8)]) (N := N__law_overlaid) (sc := (defScope s__law_overlaid)) (by decide +kernel)) (fun _ _ _ _ _ => (sgt_name (i := 8) (is := [8]) List.mem_cons_self rfl sc__law_overlaid.nd rfl (Or.inl rfl))) (fun _ _ _ _ _ => (sts_one (st_or2 (st_eq rfl hr.units (se_vS 8 (pv 8) rfl) se_int) (st_eq rfl hr.units (se_sl rfl (se_vN 4 (pv 4) rfl) (so_some (se_sub (se_len rfl T.m_len (sa_cons (se_vN 4 (pv 4) rfl) sa_nil)) (se_vS 8 (pv 8) rfl))) so_none) (se_sl rfl (se_vS 2 (pv 2) rfl) so_none (so_some (se_vS 8 (pv 8) rfl))))))) (fun _ _ _ _ _ => (se_vS 8 (pv 8) rfl))) rfl)
  (sss_cons (ss_setS (sg_of (i := 7) (se_ix rfl (se_vS 6 (pv 6) rfl) (SE.le (se_callW rfl tk (ok__law_take T) (hr.mono (by decide : 1 ≤ 2)) (by rfl) T.g__law_take T.F__law_take.kp T.b__law_take rfl (pv 0) (sa_cons (SE.le (se_len rfl T.m_len (sa_cons (se_vS 6 (pv 6) rfl) sa_nil)) .vb) sa_nil) (aLen1 (fun _ _ _ => aLen_cons (fun _ _ _ => aLen_nil)))) .vs) (fun _ _ => rfl)) sc__law_overlaid.nd rfl (Or.inl rfl)) rfl)
  (sss_cons (ss_if (st_eq rfl hr.units (se_callW rfl tk (ok__law_take T) (hr.mono (by decide : 1 ≤ 2)) (by rfl) T.g__law_take T.F__law_take.kp T.b__law_take rfl (pv 0) (sa_cons (SE.le se_int .vb) sa_nil) (aLen1 (fun _ _ _ => aLen_cons (fun _ _ _ => aLen_nil)))) se_int) (sss_cons (ss_setN (sg_of (i := 4) (se_add (se_vN 4 (pv 4) rfl) (SE.le (se_callW rfl tk (ok__law_signs T) hr (by rfl) T.g__law_signs T.F__law_signs.kp T.b__law_signs rfl (pv 0) (sa_cons (SE.le (se_vS 1 (pv 1) rfl) .sb) (sa_cons (SE.le se_int .vb) sa_nil)) (aLen1 (fun _ _ _ => aLen_cons (fun _ _ _ => aLen_cons (fun _ _ _ => aLen_nil))))) .vn)) sc__law_overlaid.nd rfl (Or.inr rfl)) rfl)
  (sss_one (ss_setS (sg_of (i := 7) (SE.le se_int .vs) sc__law_overlaid.nd rfl (Or.inl rfl)) rfl))) sss_nil)
  (sss_one (ss_setN (sg_of (i := 4) (SE.le (SE.flat (se_add (SE.le (se_vN 4 (pv 4) rfl) .ns) (se_sl rfl (se_vS 2 (pv 2) rfl) (so_some (se_vS 7 (pv 7) rfl)) so_none))) .vn) sc__law_overlaid.nd rfl (Or.inr rfl)) rfl))))))
  (sss_one (ss_ret (SE.le (se_vN 4 (pv 4) rfl) .nl))))))
theorem ok__law_bent (T : Tp K mg) : FnOk P w K mg base (L2N.CX P w) 3 T.f__law_bent T.d__law_bent ps__law_bent (spW K (cvK K) 3 F__law_bent) :=
  fn_W N__law_bent ps__law_bent 5 3 (cf__law_bent K mg) B__law_bent rfl rfl T.F__law_bent sc__law_bent rfl rfl (fun i h1 h2 => by
    match i, h1, h2 with
    | 1, _, _ => exact rfl
    | 2, _, _ => exact rfl
    | i + 3, _, h => exact absurd h (by simp)) (fun cdv A outer s H E hr tk pw =>
  (sss_cons (ss_setS (sg_of (i := 3) (SE.le (se_callW rfl tk (ok__law_take T) (hr.mono (by decide : 1 ≤ 2)) (by rfl) T.g__law_take T.F__law_take.kp T.b__law_take rfl (pv 0) (sa_cons (SE.le (se_add (se_len rfl T.m_len (sa_cons (se_vS 2 (pv 2) rfl) sa_nil)) se_int) .vb) sa_nil) (aLen1 (fun _ _ _ => aLen_cons (fun _ _ _ => aLen_nil)))) .vs) sc__law_bent.nd rfl (Or.inl rfl)) rfl)
  (sss_cons (ss_setS (sg_of (i := 4) (SE.le (se_callW rfl tk (ok__law_take T) (hr.mono (by decide : 1 ≤ 2)) (by rfl) T.g__law_take T.F__law_take.kp T.b__law_take rfl (pv 0) (sa_cons (SE.le se_int .vb) sa_nil) (aLen1 (fun _ _ _ => aLen_cons (fun _ _ _ => aLen_nil)))) .vs) sc__law_bent.nd rfl (Or.inl rfl)) rfl)
  (sss_cons (ss_if (st_eq rfl hr.units (se_vS 4 (pv 4) rfl) se_int) (sss_one (ss_ret (SE.le (SE.flat (se_add (se_sl rfl (se_vS 2 (pv 2) rfl) so_none (so_some (se_vS 3 (pv 3) rfl))) (se_sl rfl (se_vS 2 (pv 2) rfl) (so_some (se_add (se_vS 3 (pv 3) rfl) (SE.le se_int .vs))) so_none))) .vl))) sss_nil)
  (sss_one (ss_ret (SE.le (SE.flat (se_add (se_add (se_sl rfl (se_vS 2 (pv 2) rfl) so_none (so_some (se_vS 3 (pv 3) rfl))) (SE.le (se_callW rfl tk (ok__law_signs T) hr (by rfl) T.g__law_signs T.F__law_signs.kp T.b__law_signs rfl (pv 0) (sa_cons (SE.le (se_vS 1 (pv 1) rfl) .sb) (sa_cons (SE.le se_int .vb) sa_nil)) (aLen1 (fun _ _ _ => aLen_cons (fun _ _ _ => aLen_cons (fun _ _ _ => aLen_nil))))) .vs)) (se_sl rfl (se_vS 2 (pv 2) rfl) (so_some (se_sub (se_add (se_vS 3 (pv 3) rfl) (SE.le se_int .vs)) (se_vS 4 (pv 4) rfl))) so_none))) .vl)))))))
theorem ok__law_first_bare (T : Tp K mg) : FnOk P w K mg base (L2N.CX P w) 3 T.f__law_first_bare T.d__law_first_bare ps__law_first_bare (spP K (cvK K) 2 F__law_first_bare) :=
  fn_P N__law_first_bare ps__law_first_bare 2 2 (cf__law_first_bare K mg) B__law_first_bare rfl rfl T.F__law_first_bare sc__law_first_bare rfl (fun i h1 => by
    match i, h1 with
    | 0, _ => exact rfl
    | 1, _ => exact rfl
    | i + 2, h => exact absurd h (by simp)) (fun cdv A outer s H E hr tk pw =>
  (sss_one (ss_ret (SE.le (se_ix rfl (se_ix rfl (se_ix rfl (se_call rfl tk (ok_how_covered T) hr (by rfl) T.g_how_covered T.F_how_covered.kp T.b_how_covered (sa_cons (SE.le (se_vS 0 (pv 0) rfl) .sb) (sa_cons (SE.le (se_vS 1 (pv 1) rfl) .sb) sa_nil)) (fun _ _ _ => aLen_cons (fun _ _ _ => aLen_cons (fun _ _ _ => aLen_nil)))) se_int (fun _ _ => rfl)) se_int (fun _ _ => rfl)) se_int (fun _ _ => rfl)) .vl))))
theorem ok__law_piece_right (T : Tp K mg) : FnOk P w K mg base (L2N.CX P w) 3 T.f__law_piece_right T.d__law_piece_right ps__law_piece_right (spW K (cvK K) 4 F__law_piece_right) :=
  fn_W N__law_piece_right ps__law_piece_right 10 4 (cf__law_piece_right K mg) B__law_piece_right rfl rfl T.F__law_piece_right sc__law_piece_right rfl rfl (fun i h1 h2 => by
    match i, h1, h2 with
    | 1, _, _ => exact rfl
    | 2, _, _ => exact rfl
    | 3, _, _ => exact rfl
    | i + 4, _, h => exact absurd h (by simp)) (fun cdv A outer s H E hr tk pw =>
  (sss_cons (ss_unp (SE.le (se_call rfl tk (ok_most_covering T) hr (by rfl) T.g_most_covering T.F_most_covering.kp T.b_most_covering (sa_cons (SE.le (se_vS 1 (pv 1) rfl) .sb) (sa_cons (SE.le (se_vS 3 (pv 3) rfl) .sb) sa_nil)) (fun _ _ _ => aLen_cons (fun _ _ _ => aLen_cons (fun _ _ _ => aLen_nil)))) .vs) (sgt_tup (is := [4, 5]) (js := [4, 5]) rfl rfl (sgts_cons (i := 4) (by decide) rfl sc__law_piece_right.nd rfl (Or.inl rfl) (sgts_cons (i := 5) (by decide) rfl sc__law_piece_right.nd rfl (Or.inl rfl) sgts_nil)) rfl))
  (sss_cons (ss_setS (sg_of (i := 6) (se_sl rfl (se_vS 1 (pv 1) rfl) (so_some (se_vS 5 (pv 5) rfl)) (so_some (se_add (se_vS 5 (pv 5) rfl) (se_vS 3 (pv 3) rfl)))) sc__law_piece_right.nd rfl (Or.inl rfl)) rfl)
  (sss_cons (ss_if (st_or2 (st_ne rfl hr.units (se_ix rfl (se_call rfl tk (ok_how_covered T) hr (by rfl) T.g_how_covered T.F_how_covered.kp T.b_how_covered (sa_cons (SE.le (se_vS 1 (pv 1) rfl) .sb) (sa_cons (SE.le (se_vS 6 (pv 6) rfl) .sb) sa_nil)) (fun _ _ _ => aLen_cons (fun _ _ _ => aLen_cons (fun _ _ _ => aLen_nil)))) se_int (fun _ _ => rfl)) (se_vS 4 (pv 4) rfl)) (st_lt (se_vS 4 (pv 4) rfl) (se_vS 3 (pv 3) rfl))) (sss_one (ss_ret (SE.le se_bl .vl))) sss_nil)
  (sss_cons (ss_if (st_and2 (st_eq rfl hr.units (se_len rfl T.m_len (sa_cons (se_vS 2 (pv 2) rfl) sa_nil)) (se_vS 3 (pv 3) rfl)) (st_gt (se_ix rfl (se_call rfl tk (ok_how_covered T) hr (by rfl) T.g_how_covered T.F_how_covered.kp T.b_how_covered (sa_cons (SE.le (se_vS 1 (pv 1) rfl) .sb) (sa_cons (SE.le (se_vS 2 (pv 2) rfl) .sb) sa_nil)) (fun _ _ _ => aLen_cons (fun _ _ _ => aLen_cons (fun _ _ _ => aLen_nil)))) se_int (fun _ _ => rfl)) (se_vS 4 (pv 4) rfl))) (sss_one (ss_ret (SE.le se_bl .vl))) sss_nil)
  (sss_cons (ss_setS (sg_of (i := 7) (SE.le (se_callW rfl tk (ok__law_take T) (hr.mono (by decide : 1 ≤ 2)) (by rfl) T.g__law_take T.F__law_take.kp T.b__law_take rfl (pv 0) (sa_cons (SE.le se_int .vb) sa_nil) (aLen1 (fun _ _ _ => aLen_cons (fun _ _ _ => aLen_nil)))) .vs) sc__law_piece_right.nd rfl (Or.inl rfl)) rfl)
  (sss_cons (ss_setS (sg_of (i := 8) (SE.le (se_ix rfl (se_lst (sa_cons se_int (sa_cons se_int (sa_cons se_int (sa_cons se_int (sa_cons se_int (sa_cons se_int (sa_cons se_int (sa_cons se_int (sa_cons se_int (sa_cons se_int (sa_cons se_int (sa_cons se_int sa_nil))))))))))))) (se_callW rfl tk (ok__law_take T) (hr.mono (by decide : 1 ≤ 2)) (by rfl) T.g__law_take T.F__law_take.kp T.b__law_take rfl (pv 0) (sa_cons (SE.le se_int .vb) sa_nil) (aLen1 (fun _ _ _ => aLen_cons (fun _ _ _ => aLen_nil)))) (fun _ _ => rfl)) .vs) sc__law_piece_right.nd rfl (Or.inl rfl)) rfl)
  (sss_cons (ss_if (st_ne rfl hr.units (se_call rfl tk (ok_most_covering T) hr (by rfl) T.g_most_covering T.F_most_covering.kp T.b_most_covering (sa_cons (SE.le (se_call rfl tk (ok__law_renamed T) (hr.mono (by decide : 1 ≤ 2)) (by rfl) T.g__law_renamed T.F__law_renamed.kp T.b__law_renamed (sa_cons (SE.le (se_vS 1 (pv 1) rfl) .sb) (sa_cons (SE.le (se_vS 7 (pv 7) rfl) .sb) (sa_cons (SE.le (se_vS 8 (pv 8) rfl) .sb) sa_nil))) (fun _ _ _ => aLen_cons (fun _ _ _ => aLen_cons (fun _ _ _ => aLen_cons (fun _ _ _ => aLen_nil))))) .vb) (sa_cons (SE.le (se_vS 3 (pv 3) rfl) .sb) sa_nil)) (fun _ _ _ => aLen_cons (fun _ _ _ => aLen_cons (fun _ _ _ => aLen_nil)))) (se_tup (sa_cons (se_vS 4 (pv 4) rfl) (sa_cons (se_vS 5 (pv 5) rfl) sa_nil)))) (sss_one (ss_ret (SE.le se_bl .vl))) sss_nil)
  (sss_cons (ss_if (st_ne rfl hr.units (se_ix rfl (se_call rfl tk (ok_most_covering T) hr (by rfl) T.g_most_covering T.F_most_covering.kp T.b_most_covering (sa_cons (SE.le (se_rev rfl (se_vS 1 (pv 1) rfl)) .sb) (sa_cons (SE.le (se_vS 3 (pv 3) rfl) .sb) sa_nil)) (fun _ _ _ => aLen_cons (fun _ _ _ => aLen_cons (fun _ _ _ => aLen_nil)))) se_int (fun _ _ => rfl)) (se_vS 4 (pv 4) rfl)) (sss_one (ss_ret (SE.le se_bl .vl))) sss_nil)
  (sss_cons (ss_setS (sg_of (i := 9) (SE.le (se_callW rfl tk (ok__law_take T) (hr.mono (by decide : 1 ≤ 2)) (by rfl) T.g__law_take T.F__law_take.kp T.b__law_take rfl (pv 0) (sa_cons (SE.le (se_add (se_sub (se_len rfl T.m_len (sa_cons (se_vS 1 (pv 1) rfl) sa_nil)) (se_vS 3 (pv 3) rfl)) se_int) .vb) sa_nil) (aLen1 (fun _ _ _ => aLen_cons (fun _ _ _ => aLen_nil)))) .vs) sc__law_piece_right.nd rfl (Or.inl rfl)) rfl)
  (sss_one (ss_ret (SE.le (se_le (se_ix rfl (se_call rfl tk (ok_how_covered T) hr (by rfl) T.g_how_covered T.F_how_covered.kp T.b_how_covered (sa_cons (SE.le (se_vS 1 (pv 1) rfl) .sb) (sa_cons (SE.le (se_sl rfl (se_vS 1 (pv 1) rfl) (so_some (se_vS 9 (pv 9) rfl)) (so_some (se_add (se_vS 9 (pv 9) rfl) (se_vS 3 (pv 3) rfl)))) .sb) sa_nil)) (fun _ _ _ => aLen_cons (fun _ _ _ => aLen_cons (fun _ _ _ => aLen_nil)))) se_int (fun _ _ => rfl)) (se_vS 4 (pv 4) rfl)) .vl)))))))))))))
theorem ok_all_covers (T : Tp K mg) : FnOk P w K mg base (L2N.CX P w) 4 T.f_all_covers T.d_all_covers ps_all_covers (spP K (cvK K) 1 F_all_covers) :=
  fn_P N_all_covers ps_all_covers 3 1 (cf_all_covers K mg) B_all_covers rfl rfl T.F_all_covers sc_all_covers rfl (fun i h1 => by
    match i, h1 with
    | 0, _ => exact rfl
    | i + 1, h => exact absurd h (by simp)) (fun cdv A outer s H E hr tk pw =>
  (sss_cons (ss_expr (se_call rfl tk (ok_need_signs T) (hr.mono (by decide : 1 ≤ 3)) (by rfl) T.g_need_signs T.F_need_signs.kp T.b_need_signs (sa_cons (SE.le (se_vS 0 (pv 0) rfl) .sb) sa_nil) (fun _ _ _ => aLen_cons (fun _ _ _ => aLen_nil))))
  (sss_cons (ss_expr (se_call rfl tk (ok_need_text T) (hr.mono (by decide : 1 ≤ 3)) (by rfl) T.g_need_text T.F_need_text.kp T.b_need_text (sa_cons (SE.le (se_vS 0 (pv 0) rfl) .sb) sa_nil) (fun _ _ _ => aLen_cons (fun _ _ _ => aLen_nil))))
  (sss_cons (ss_setS (sg_lc (i := 1) (c := .S) (own := [(Str.ofString "size", 2)]) rfl (own1 rfl) rfl sc_all_covers.nd rfl rfl (sw_true rfl rfl rfl (by decide +kernel)) (SI.w (si_list rfl (SE.le (se_call rfl tk (ok_borders T) (hr.mono (by decide : 2 ≤ 3)) (by rfl) T.g_borders T.F_borders.kp T.b_borders (sa_cons (SE.le (se_vS 0 (pv 0) rfl) .sb) sa_nil) (fun _ _ _ => aLen_cons (fun _ _ _ => aLen_nil))) .vs))) (blkOk_by (own := [(Str.ofString "size", 2)]) (N := N_all_covers) (sc := (defScope s_all_covers)) (by decide +kernel)) (fun _ _ _ _ _ => (sgt_name (i := 2) (is := [2]) List.mem_cons_self rfl sc_all_covers.nd rfl (Or.inl rfl))) (fun _ _ _ _ _ => (sts_one (st_and2 (st_gt (se_vS 2 (pv 2) rfl) se_int) (st_eq rfl hr.units (se_ix rfl (se_call rfl takes0N (ok_covered T) hr (by rfl) T.g_covered T.F_covered.kp T.b_covered (sa_cons (SE.le (se_vS 0 (pv 0) rfl) .sb) (sa_cons (SE.le (se_sl rfl (se_vS 0 (pv 0) rfl) so_none (so_some (se_vS 2 (pv 2) rfl))) .sb) sa_nil)) (fun _ _ _ => aLen_cons (fun _ _ _ => aLen_cons (fun _ _ _ => aLen_nil)))) se_int (fun _ _ => rfl)) se_str)))) (fun _ _ _ _ _ => (se_vS 2 (pv 2) rfl))) rfl)
  (sss_one (ss_ret (SE.le (SE.flat (se_add (se_vS 1 (pv 1) rfl) (SE.le (se_lst (sa_cons (se_len rfl T.m_len (sa_cons (se_vS 0 (pv 0) rfl) sa_nil)) sa_nil)) .vs))) .vl)))))))
theorem ok__law_pair (T : Tp K mg) : FnOk P w K mg base (L2N.CX P w) 4 T.f__law_pair T.d__law_pair ps__law_pair (spW K (cvK K) 2 F__law_pair) :=
  fn_W N__law_pair ps__law_pair 7 2 (cf__law_pair K mg) B__law_pair rfl rfl T.F__law_pair sc__law_pair rfl rfl (fun i h1 h2 => by
    match i, h1, h2 with
    | 1, _, _ => exact rfl
    | i + 2, _, h => exact absurd h (by simp)) (fun cdv A outer s H E hr tk pw =>
  (sss_cons (ss_setN (sg_of (i := 2) (SE.le (se_callW rfl tk (ok__law_letters T) (hr.mono (by decide : 2 ≤ 3)) (by rfl) T.g__law_letters T.F__law_letters.kp T.b__law_letters rfl (pv 0) sa_nil (aLen1 (fun _ _ _ => aLen_nil))) .vn) sc__law_pair.nd rfl (Or.inl rfl)) rfl)
  (sss_cons (ss_setN (sg_of (i := 3) (SE.le (se_callW rfl tk (ok__law_word T) hr (by rfl) T.g__law_word T.F__law_word.kp T.b__law_word rfl (pv 0) (sa_cons (SE.le (se_vN 2 (pv 2) rfl) .nb) (sa_cons (SE.le (se_ix rfl (se_lst (sa_cons se_int (sa_cons se_int (sa_cons se_int sa_nil)))) (se_callW rfl tk (ok__law_take T) (hr.mono (by decide : 1 ≤ 3)) (by rfl) T.g__law_take T.F__law_take.kp T.b__law_take rfl (pv 0) (sa_cons (SE.le se_int .vb) sa_nil) (aLen1 (fun _ _ _ => aLen_cons (fun _ _ _ => aLen_nil)))) (fun _ _ => rfl)) .vb) sa_nil)) (aLen1 (fun _ _ _ => aLen_cons (fun _ _ _ => aLen_cons (fun _ _ _ => aLen_nil))))) .vn) sc__law_pair.nd rfl (Or.inl rfl)) rfl)
  (sss_cons (ss_setN (sg_of (i := 4) (SE.le (se_callW rfl tk (ok__law_overlaid T) hr (by rfl) T.g__law_overlaid T.F__law_overlaid.kp T.b__law_overlaid rfl (pv 0) (sa_cons (SE.le (se_vN 2 (pv 2) rfl) .nb) (sa_cons (SE.le (se_vN 3 (pv 3) rfl) .nb) (sa_cons (SE.le (se_callW rfl tk (ok__law_take T) (hr.mono (by decide : 1 ≤ 3)) (by rfl) T.g__law_take T.F__law_take.kp T.b__law_take rfl (pv 0) (sa_cons (SE.le se_int .vb) sa_nil) (aLen1 (fun _ _ _ => aLen_cons (fun _ _ _ => aLen_nil)))) .vb) sa_nil))) (aLen1 (fun _ _ _ => aLen_cons (fun _ _ _ => aLen_cons (fun _ _ _ => aLen_cons (fun _ _ _ => aLen_nil)))))) .vn) sc__law_pair.nd rfl (Or.inl rfl)) rfl)
  (sss_cons (ss_if (st_and2 (st_tru rfl (se_vS 1 (pv 1) rfl)) (st_eq rfl hr.units (se_callW rfl tk (ok__law_take T) (hr.mono (by decide : 1 ≤ 3)) (by rfl) T.g__law_take T.F__law_take.kp T.b__law_take rfl (pv 0) (sa_cons (SE.le se_int .vb) sa_nil) (aLen1 (fun _ _ _ => aLen_cons (fun _ _ _ => aLen_nil)))) se_int)) (sss_cons (ss_setN (sg_of (i := 4) (SE.le (se_callW rfl tk (ok__law_overlaid T) hr (by rfl) T.g__law_overlaid T.F__law_overlaid.kp T.b__law_overlaid rfl (pv 0) (sa_cons (SE.le (se_vN 2 (pv 2) rfl) .nb) (sa_cons (SE.le (se_vN 3 (pv 3) rfl) .nb) (sa_cons (SE.le se_int .vb) sa_nil))) (aLen1 (fun _ _ _ => aLen_cons (fun _ _ _ => aLen_cons (fun _ _ _ => aLen_cons (fun _ _ _ => aLen_nil)))))) .vn) sc__law_pair.nd rfl (Or.inl rfl)) rfl)
  (sss_one (ss_while WFUEL pw (st_lt (se_len rfl T.m_len (sa_cons (se_vN 4 (pv 4) rfl) sa_nil)) se_int) (sss_one (ss_setN (sg_of (i := 4) (se_add (se_vN 4 (pv 4) rfl) (se_vN 4 (pv 4) rfl)) sc__law_pair.nd rfl (Or.inl rfl)) rfl))))) sss_nil)
  (sss_cons (ss_setS (sg_of (i := 5) (SE.le (se_callW rfl tk (ok__law_take T) (hr.mono (by decide : 1 ≤ 3)) (by rfl) T.g__law_take T.F__law_take.kp T.b__law_take rfl (pv 0) (sa_cons (SE.le (se_ix rfl (se_lst (sa_cons se_int (sa_cons (se_add (se_len rfl T.m_len (sa_cons (se_vN 3 (pv 3) rfl) sa_nil)) se_int) sa_nil))) (se_callW rfl tk (ok__law_take T) (hr.mono (by decide : 1 ≤ 3)) (by rfl) T.g__law_take T.F__law_take.kp T.b__law_take rfl (pv 0) (sa_cons (SE.le se_int .vb) sa_nil) (aLen1 (fun _ _ _ => aLen_cons (fun _ _ _ => aLen_nil)))) (fun _ _ => rfl)) .vb) sa_nil) (aLen1 (fun _ _ _ => aLen_cons (fun _ _ _ => aLen_nil)))) .vs) sc__law_pair.nd rfl (Or.inl rfl)) rfl)
  (sss_cons (ss_setS (sg_of (i := 6) (SE.le (se_callW rfl tk (ok__law_take T) (hr.mono (by decide : 1 ≤ 3)) (by rfl) T.g__law_take T.F__law_take.kp T.b__law_take rfl (pv 0) (sa_cons (SE.le (se_ix rfl (se_lst (sa_cons se_int (sa_cons (se_add (se_len rfl T.m_len (sa_cons (se_vN 3 (pv 3) rfl) sa_nil)) se_int) sa_nil))) (se_callW rfl tk (ok__law_take T) (hr.mono (by decide : 1 ≤ 3)) (by rfl) T.g__law_take T.F__law_take.kp T.b__law_take rfl (pv 0) (sa_cons (SE.le se_int .vb) sa_nil) (aLen1 (fun _ _ _ => aLen_cons (fun _ _ _ => aLen_nil)))) (fun _ _ => rfl)) .vb) sa_nil) (aLen1 (fun _ _ _ => aLen_cons (fun _ _ _ => aLen_nil)))) .vs) sc__law_pair.nd rfl (Or.inl rfl)) rfl)
  (sss_cons (ss_setN (sg_of (i := 4) (se_sl rfl (se_sl rfl (se_vN 4 (pv 4) rfl) (so_some (se_vS 5 (pv 5) rfl)) so_none) so_none (so_some se_int)) sc__law_pair.nd rfl (Or.inl rfl)) rfl)
  (sss_cons (ss_setN (sg_of (i := 4) (se_sl rfl (se_vN 4 (pv 4) rfl) so_none (so_some (se_sub (se_len rfl T.m_len (sa_cons (se_vN 4 (pv 4) rfl) sa_nil)) (se_min2 rfl T.m_min (sa_cons (SE.le (se_vS 6 (pv 6) rfl) .sb) (sa_cons (SE.le (se_len rfl T.m_len (sa_cons (se_vN 4 (pv 4) rfl) sa_nil)) .vb) sa_nil)))))) sc__law_pair.nd rfl (Or.inl rfl)) rfl)
  (sss_cons (ss_if (st_eq rfl hr.units (se_callW rfl tk (ok__law_take T) (hr.mono (by decide : 1 ≤ 3)) (by rfl) T.g__law_take T.F__law_take.kp T.b__law_take rfl (pv 0) (sa_cons (SE.le se_int .vb) sa_nil) (aLen1 (fun _ _ _ => aLen_cons (fun _ _ _ => aLen_nil)))) se_int) (sss_one (ss_setN (sg_of (i := 4) (SE.le (se_sl rfl (se_callW rfl tk (ok__law_bent T) hr (by rfl) T.g__law_bent T.F__law_bent.kp T.b__law_bent rfl (pv 0) (sa_cons (SE.le (se_vN 2 (pv 2) rfl) .nb) (sa_cons (SE.le (se_vN 4 (pv 4) rfl) .nb) sa_nil)) (aLen1 (fun _ _ _ => aLen_cons (fun _ _ _ => aLen_cons (fun _ _ _ => aLen_nil))))) so_none (so_some se_int)) .vn) sc__law_pair.nd rfl (Or.inl rfl)) rfl)) sss_nil)
  (sss_cons (ss_if (st_eq rfl hr.units (se_callW rfl tk (ok__law_take T) (hr.mono (by decide : 1 ≤ 3)) (by rfl) T.g__law_take T.F__law_take.kp T.b__law_take rfl (pv 0) (sa_cons (SE.le se_int .vb) sa_nil) (aLen1 (fun _ _ _ => aLen_cons (fun _ _ _ => aLen_nil)))) se_int) (sss_one (ss_setN (sg_of (i := 3) (SE.le (se_callW rfl tk (ok__law_bent T) hr (by rfl) T.g__law_bent T.F__law_bent.kp T.b__law_bent rfl (pv 0) (sa_cons (SE.le (se_vN 2 (pv 2) rfl) .nb) (sa_cons (SE.le (se_vN 3 (pv 3) rfl) .nb) sa_nil)) (aLen1 (fun _ _ _ => aLen_cons (fun _ _ _ => aLen_cons (fun _ _ _ => aLen_nil))))) .vn) sc__law_pair.nd rfl (Or.inl rfl)) rfl)) sss_nil)
  (sss_one (ss_ret (SE.le (se_tup (sa_cons (se_orT rfl (se_vN 4 (pv 4) rfl) (se_one (SE.nn (se_sl rfl (se_vN 2 (pv 2) rfl) so_none (so_some se_int))))) (sa_cons (se_orT rfl (se_vN 3 (pv 3) rfl) (se_one (SE.nn (se_sl rfl (se_vN 2 (pv 2) rfl) so_none (so_some se_int))))) sa_nil))) .nl))))))))))))))
theorem ok__law_word_right (T : Tp K mg) : FnOk P w K mg base (L2N.CX P w) 4 T.f__law_word_right T.d__law_word_right ps__law_word_right (spP K (cvK K) 2 F__law_word_right_v2) :=
  fn_P N__law_word_right ps__law_word_right 12 2 (cf__law_word_right K mg) B__law_word_right_v2 rfl rfl T.F__law_word_right sc__law_word_right rfl (fun i h1 => by
    match i, h1 with
    | 0, _ => exact rfl
    | 1, _ => exact rfl
    | i + 2, h => exact absurd h (by simp)) (fun cdv A outer s H E hr tk pw =>
  (sss_cons (ss_unp (SE.le (se_call rfl tk (ok_how_covered T) (hr.mono (by decide : 2 ≤ 3)) (by rfl) T.g_how_covered T.F_how_covered.kp T.b_how_covered (sa_cons (SE.le (se_vS 0 (pv 0) rfl) .sb) (sa_cons (SE.le (se_vS 1 (pv 1) rfl) .sb) sa_nil)) (fun _ _ _ => aLen_cons (fun _ _ _ => aLen_cons (fun _ _ _ => aLen_nil)))) .vs) (sgt_tup (is := [2, 3]) (js := [2, 3]) rfl rfl (sgts_cons (i := 2) (by decide) rfl sc__law_word_right.nd rfl (Or.inl rfl) (sgts_cons (i := 3) (by decide) rfl sc__law_word_right.nd rfl (Or.inl rfl) sgts_nil)) rfl))
  (sss_cons (ss_setS (sg_of (i := 4) (SE.le (se_sum rfl rfl T.m_sum (sa_cons (SE.le (se_lc (c := .V) (own := [(Str.ofString "begin", 8), (Str.ofString "end", 9)]) rfl (own2 rfl rfl) rfl sc__law_word_right.nd (SI.w (si_list rfl (se_vS 3 (pv 3) rfl))) (blkOk_by (own := [(Str.ofString "begin", 8), (Str.ofString "end", 9)]) (N := N__law_word_right) (sc := (defScope s__law_word_right)) (by decide +kernel)) (fun _ _ _ _ _ => (sgt_tup (is := [8, 9]) (js := [8, 9]) rfl rfl (sgts_cons (i := 8) (by decide) rfl sc__law_word_right.nd rfl (Or.inl rfl) (sgts_cons (i := 9) (by decide) rfl sc__law_word_right.nd rfl (Or.inl rfl) sgts_nil)) rfl)) (fun _ _ _ _ _ => sts_nil) (fun _ _ _ _ _ => (se_sub (se_vS 9 (pv 9) rfl) (se_vS 8 (pv 8) rfl)))) .vb) sa_nil)) .vs) sc__law_word_right.nd rfl (Or.inl rfl)) rfl)
  (sss_cons (ss_if (st_or2 (st_ne rfl hr.units (se_add (se_vS 2 (pv 2) rfl) (se_vS 4 (pv 4) rfl)) (se_len rfl T.m_len (sa_cons (se_vS 0 (pv 0) rfl) sa_nil))) (st_ne rfl hr.units (se_sortD rfl rfl hr.units T.m_sorted (sa_cons (se_vS 3 (pv 3) rfl) sa_nil)) (se_vS 3 (pv 3) rfl))) (sss_one (ss_ret (SE.le se_bl .vl))) sss_nil)
  (sss_cons (ss_if (st_ne rfl hr.units (se_lc (c := .V) (own := [(Str.ofString "one", 10), (Str.ofString "other", 11)]) rfl (own2 rfl rfl) rfl sc__law_word_right.nd (SI.w (si_zip rfl (by rfl) T.m_zip (sa_cons (se_vS 3 (pv 3) rfl) (sa_cons (se_sl rfl (se_vS 3 (pv 3) rfl) (so_some se_int) so_none) sa_nil)))) (blkOk_by (own := [(Str.ofString "one", 10), (Str.ofString "other", 11)]) (N := N__law_word_right) (sc := (defScope s__law_word_right)) (by decide +kernel)) (fun _ _ _ _ _ => (sgt_tup (is := [10, 11]) (js := [10, 11]) rfl rfl (sgts_cons (i := 10) (by decide) rfl sc__law_word_right.nd rfl (Or.inl rfl) (sgts_cons (i := 11) (by decide) rfl sc__law_word_right.nd rfl (Or.inl rfl) sgts_nil)) rfl)) (fun _ _ _ _ _ => (sts_one (st_ge (se_ix rfl (se_vS 10 (pv 10) rfl) (SE.le se_int .vs) (fun _ _ => rfl)) (se_ix rfl (se_vS 11 (pv 11) rfl) (SE.le se_int .vs) (fun _ _ => rfl))))) (fun _ _ _ _ _ => se_int)) (se_lst (c := .V) sa_nil)) (sss_one (ss_ret (SE.le se_bl .vl))) sss_nil)
  (sss_cons (ss_setS (sg_of (i := 5) (SE.le (se_call rfl tk (ok_covered T) hr (by rfl) T.g_covered T.F_covered.kp T.b_covered (sa_cons (SE.le (se_vS 0 (pv 0) rfl) .sb) (sa_cons (SE.le (se_vS 1 (pv 1) rfl) .sb) sa_nil)) (fun _ _ _ => aLen_cons (fun _ _ _ => aLen_cons (fun _ _ _ => aLen_nil)))) .vs) sc__law_word_right.nd rfl (Or.inl rfl)) rfl)
  (sss_cons (ss_if (st_ne rfl hr.units (se_eq rfl hr.units (se_ix rfl (se_vS 5 (pv 5) rfl) (SE.le se_int .vs) (fun _ _ => rfl)) se_str) (se_eq rfl hr.units (se_vS 3 (pv 3) rfl) (se_lst (c := .V) sa_nil))) (sss_one (ss_ret (SE.le se_bl .vl))) sss_nil)
  (sss_cons (ss_if (st_and2 (st_ne rfl hr.units (se_vS 3 (pv 3) rfl) (se_lst (c := .V) sa_nil)) (st_ne rfl hr.units (se_vS 5 (pv 5) rfl) (se_tup (sa_cons se_str (sa_cons (se_call rfl tk (ok__law_first_bare T) hr (by rfl) T.g__law_first_bare T.F__law_first_bare.kp T.b__law_first_bare (sa_cons (SE.le (se_vS 0 (pv 0) rfl) .sb) (sa_cons (SE.le (se_vS 1 (pv 1) rfl) .sb) sa_nil)) (fun _ _ _ => aLen_cons (fun _ _ _ => aLen_cons (fun _ _ _ => aLen_nil)))) sa_nil))))) (sss_one (ss_ret (SE.le se_bl .vl))) sss_nil)
  (sss_cons (ss_setS (sg_of (i := 6) (SE.le (se_call rfl tk (ok_how_covered T) (hr.mono (by decide : 2 ≤ 3)) (by rfl) T.g_how_covered T.F_how_covered.kp T.b_how_covered (sa_cons (SE.le (se_rev rfl (se_vS 0 (pv 0) rfl)) .sb) (sa_cons (SE.le (se_rev rfl (se_vS 1 (pv 1) rfl)) .sb) sa_nil)) (fun _ _ _ => aLen_cons (fun _ _ _ => aLen_cons (fun _ _ _ => aLen_nil)))) .vs) sc__law_word_right.nd rfl (Or.inl rfl)) rfl)
  (sss_cons (ss_setS (sg_of (i := 7) (SE.le (se_len rfl T.m_len (sa_cons (se_vS 0 (pv 0) rfl) sa_nil)) .vs) sc__law_word_right.nd rfl (Or.inr rfl)) rfl)
  (sss_one (ss_ret (SE.le (se_eq rfl hr.units (se_vS 6 (pv 6) rfl) (se_tup (sa_cons (se_vS 2 (pv 2) rfl) (sa_cons (SE.le (se_rev rfl (se_lc (c := .V) (own := [(Str.ofString "begin", 8), (Str.ofString "end", 9)]) rfl (own2 rfl rfl) rfl sc__law_word_right.nd (SI.w (si_list rfl (se_vS 3 (pv 3) rfl))) (blkOk_by (own := [(Str.ofString "begin", 8), (Str.ofString "end", 9)]) (N := N__law_word_right) (sc := (defScope s__law_word_right)) (by decide +kernel)) (fun _ _ _ _ _ => (sgt_tup (is := [8, 9]) (js := [8, 9]) rfl rfl (sgts_cons (i := 8) (by decide) rfl sc__law_word_right.nd rfl (Or.inl rfl) (sgts_cons (i := 9) (by decide) rfl sc__law_word_right.nd rfl (Or.inl rfl) sgts_nil)) rfl)) (fun _ _ _ _ _ => sts_nil) (fun _ _ _ _ _ => (se_tup (sa_cons (se_sub (se_vS 7 (pv 7) rfl) (se_vS 9 (pv 9) rfl)) (sa_cons (se_sub (se_vS 7 (pv 7) rfl) (se_vS 8 (pv 8) rfl)) sa_nil)))))) .vs) sa_nil)))) .vl)))))))))))))
theorem ok__law_lengths_right (T : Tp K mg) : FnOk P w K mg base (L2N.CX P w) 5 T.f__law_lengths_right T.d__law_lengths_right ps__law_lengths_right (spP K (cvK K) 2 F__law_lengths_right) :=
  fn_P N__law_lengths_right ps__law_lengths_right 5 2 (cf__law_lengths_right K mg) B__law_lengths_right rfl rfl T.F__law_lengths_right sc__law_lengths_right rfl (fun i h1 => by
    match i, h1 with
    | 0, _ => exact rfl
    | 1, _ => exact rfl
    | i + 2, h => exact absurd h (by simp)) (fun cdv A outer s H E hr tk pw =>
  (sss_cons (ss_setS (sg_of (i := 2) (SE.le (se_call rfl tk (ok_length_for T) (hr.mono (by decide : 2 ≤ 4)) (by rfl) T.g_length_for T.F_length_for.kp T.b_length_for (sa_cons (SE.le (se_vS 0 (pv 0) rfl) .sb) (sa_cons (SE.le (se_vS 1 (pv 1) rfl) .sb) sa_nil)) (fun _ _ _ => aLen_cons (fun _ _ _ => aLen_cons (fun _ _ _ => aLen_nil)))) .vs) sc__law_lengths_right.nd rfl (Or.inl rfl)) rfl)
  (sss_cons (ss_setS (sg_of (i := 3) (SE.le (se_lc (c := .V) (own := [(Str.ofString "own", 4)]) rfl (own1 rfl) rfl sc__law_lengths_right.nd (SI.w (si_range2 (by rfl) T.m_range (sa_cons (SE.le se_int .vb) (sa_cons (SE.le (se_add (se_len rfl T.m_len (sa_cons (se_vS 0 (pv 0) rfl) sa_nil)) se_int) .vb) sa_nil)))) (blkOk_by (own := [(Str.ofString "own", 4)]) (N := N__law_lengths_right) (sc := (defScope s__law_lengths_right)) (by decide +kernel)) (fun _ _ _ _ _ => (sgt_name (i := 4) (is := [4]) List.mem_cons_self rfl sc__law_lengths_right.nd rfl (Or.inl rfl))) (fun _ _ _ _ _ => sts_nil) (fun _ _ _ _ _ => (se_ix rfl (se_call rfl takes0N (ok_most_covering T) (hr.mono (by decide : 2 ≤ 4)) (by rfl) T.g_most_covering T.F_most_covering.kp T.b_most_covering (sa_cons (SE.le (se_vS 0 (pv 0) rfl) .sb) (sa_cons (SE.le (se_vS 4 (pv 4) rfl) .sb) sa_nil)) (fun _ _ _ => aLen_cons (fun _ _ _ => aLen_cons (fun _ _ _ => aLen_nil)))) se_int (fun _ _ => rfl)))) .vs) sc__law_lengths_right.nd rfl (Or.inr rfl)) rfl)
  (sss_cons (ss_if (st_ne rfl hr.units (se_lc (c := .S) (own := [(Str.ofString "own", 4)]) rfl (own1 rfl) rfl sc__law_lengths_right.nd (SI.w (si_list rfl (se_sl rfl (se_vS 3 (pv 3) rfl) (so_some (se_sub (se_vS 2 (pv 2) rfl) se_int)) so_none))) (blkOk_by (own := [(Str.ofString "own", 4)]) (N := N__law_lengths_right) (sc := (defScope s__law_lengths_right)) (by decide +kernel)) (fun _ _ _ _ _ => (sgt_name (i := 4) (is := [4]) List.mem_cons_self rfl sc__law_lengths_right.nd rfl (Or.inl rfl))) (fun _ _ _ _ _ => (sts_one (st_lt (se_vS 4 (pv 4) rfl) (se_vS 1 (pv 1) rfl)))) (fun _ _ _ _ _ => (se_vS 4 (pv 4) rfl))) (se_lst (c := .V) sa_nil)) (sss_one (ss_ret (SE.le se_bl .vl))) sss_nil)
  (sss_cons (ss_if (st_and2 (st_gt (se_vS 2 (pv 2) rfl) se_int) (st_ge (se_ix rfl (se_vS 3 (pv 3) rfl) (SE.le (se_sub (se_vS 2 (pv 2) rfl) se_int) .vs) (fun _ _ => rfl)) (se_vS 1 (pv 1) rfl))) (sss_one (ss_ret (SE.le se_bl .vl))) sss_nil)
  (sss_cons (ss_if (st_and2 (st_gt (se_vS 1 (pv 1) rfl) se_int) (st_gt (se_call rfl tk (ok_length_for T) (hr.mono (by decide : 2 ≤ 4)) (by rfl) T.g_length_for T.F_length_for.kp T.b_length_for (sa_cons (SE.le (se_vS 0 (pv 0) rfl) .sb) (sa_cons (SE.le (se_sub (se_vS 1 (pv 1) rfl) se_int) .vb) sa_nil)) (fun _ _ _ => aLen_cons (fun _ _ _ => aLen_cons (fun _ _ _ => aLen_nil)))) (se_vS 2 (pv 2) rfl))) (sss_one (ss_ret (SE.le se_bl .vl))) sss_nil)
  (sss_cons (ss_if (st_ne rfl hr.units (se_ix rfl (se_vS 3 (pv 3) rfl) (SE.le (se_neg se_int) .vs) (fun _ _ => rfl)) (se_len rfl T.m_len (sa_cons (se_vS 0 (pv 0) rfl) sa_nil))) (sss_one (ss_ret (SE.le se_bl .vl))) sss_nil)
  (sss_one (ss_ret (SE.le (se_eq rfl hr.units (se_lc (c := .S) (own := [(Str.ofString "own", 4)]) rfl (own1 rfl) rfl sc__law_lengths_right.nd (SI.w (si_list rfl (SE.le (se_call rfl tk (ok_all_covers T) hr (by rfl) T.g_all_covers T.F_all_covers.kp T.b_all_covers (sa_cons (SE.le (se_vS 0 (pv 0) rfl) .sb) sa_nil) (fun _ _ _ => aLen_cons (fun _ _ _ => aLen_nil))) .vs))) (blkOk_by (own := [(Str.ofString "own", 4)]) (N := N__law_lengths_right) (sc := (defScope s__law_lengths_right)) (by decide +kernel)) (fun _ _ _ _ _ => (sgt_name (i := 4) (is := [4]) List.mem_cons_self rfl sc__law_lengths_right.nd rfl (Or.inl rfl))) (fun _ _ _ _ _ => (sts_one (st_lt (se_ix rfl (se_vS 3 (pv 3) rfl) (SE.le (se_sub (se_vS 4 (pv 4) rfl) se_int) .vs) (fun _ _ => rfl)) (se_len rfl T.m_len (sa_cons (se_vS 0 (pv 0) rfl) sa_nil))))) (fun _ _ _ _ _ => (se_vS 4 (pv 4) rfl))) (se_lst (c := .V) sa_nil)) .vl))))))))))
theorem ok_law (T : Tp K mg) : FnOk P w K mg base CX0 6 T.f_law T.d_law ps_law (spLaw K F_law_k27) :=
  fn_law N_law 7 (cf_law K mg) B_law_k27 rfl T.F_law sc_law rfl rfl (fun cdv A outer s H E hr =>
  (sss_cons (ss_for PassesOwn.never rfl (si_list rfl (SE.le (se_add (se_slQ rfl (pv 0) rfl so_none (so_some se_int)) (se_lst (sa_cons (se_callQ rfl takes0N (ok__law_cell_at T) (hr.mono (by decide : 1 ≤ 5)) (by rfl) T.g__law_cell_at T.F__law_cell_at.kp T.b__law_cell_at rfl (pv 0) (sa_cons (SE.le se_int .vb) sa_nil) (aLen1 (fun _ _ _ => aLen_cons (fun _ _ _ => aLen_nil)))) sa_nil))) .vs)) (sgt_name (i := 1) (is := [1]) List.mem_cons_self rfl sc_law.nd rfl (Or.inl rfl)) (sss_cons (ss_setW (sg_of (i := 2) (se_call rfl takes0N (ok__law_deck T) (hr.mono (by decide : 1 ≤ 5)) (by rfl) T.g__law_deck T.F__law_deck.kp T.b__law_deck (sa_cons (SE.le (se_vS 1 (pv 1) rfl) .sb) sa_nil) (fun _ _ _ => aLen_cons (fun _ _ _ => aLen_nil))) sc_law.nd rfl (Or.inl rfl)) rfl (by decide))
  (sss_cons (ss_unp (SE.le (se_callW rfl takes0N (ok__law_pair T) (hr.mono (by decide : 4 ≤ 5)) (by rfl) T.g__law_pair T.F__law_pair.kp T.b__law_pair rfl (pv 2) (sa_cons (SE.le se_bl .vb) sa_nil) (aLen1 (fun _ _ _ => aLen_cons (fun _ _ _ => aLen_nil)))) .vs) (sgt_tup (is := [3, 4]) (js := [3, 4]) rfl rfl (sgts_cons (i := 3) (by decide) rfl sc_law.nd rfl (Or.inl rfl) (sgts_cons (i := 4) (by decide) rfl sc_law.nd rfl (Or.inl rfl) sgts_nil)) rfl))
  (sss_cons (ss_setS (sg_of (i := 5) (SE.le (se_add se_int (se_callW rfl takes0N (ok__law_take T) (hr.mono (by decide : 1 ≤ 5)) (by rfl) T.g__law_take T.F__law_take.kp T.b__law_take rfl (pv 2) (sa_cons (SE.le (se_len rfl T.m_len (sa_cons (se_vS 3 (pv 3) rfl) sa_nil)) .vb) sa_nil) (aLen1 (fun _ _ _ => aLen_cons (fun _ _ _ => aLen_nil))))) .vs) sc_law.nd rfl (Or.inl rfl)) rfl)
  (sss_cons (ss_if (st_or2 (st_not (st_val (se_call rfl takes0N (ok__law_word_right T) (hr.mono (by decide : 4 ≤ 5)) (by rfl) T.g__law_word_right T.F__law_word_right.kp T.b__law_word_right (sa_cons (SE.le (se_vS 3 (pv 3) rfl) .sb) (sa_cons (SE.le (se_vS 4 (pv 4) rfl) .sb) sa_nil)) (fun _ _ _ => aLen_cons (fun _ _ _ => aLen_cons (fun _ _ _ => aLen_nil)))))) (st_not (st_val (se_call rfl takes0N (ok__law_word_right T) (hr.mono (by decide : 4 ≤ 5)) (by rfl) T.g__law_word_right T.F__law_word_right.kp T.b__law_word_right (sa_cons (SE.le (se_vS 3 (pv 3) rfl) .sb) (sa_cons (SE.le (se_sl rfl (se_vS 3 (pv 3) rfl) so_none (so_some se_int)) .sb) sa_nil)) (fun _ _ _ => aLen_cons (fun _ _ _ => aLen_cons (fun _ _ _ => aLen_nil))))))) (sss_one (ss_ret (SE.le se_bl .vl))) sss_nil)
  (sss_cons (ss_for PassesOwn.never rfl (si_list rfl (se_lst (sa_cons (se_vS 5 (pv 5) rfl) (sa_cons (SE.le (se_min2 rfl T.m_min (sa_cons (SE.le (se_len rfl T.m_len (sa_cons (se_vS 4 (pv 4) rfl) sa_nil)) .vb) (sa_cons (SE.le (se_len rfl T.m_len (sa_cons (se_vS 3 (pv 3) rfl) sa_nil)) .vb) sa_nil))) .vs) sa_nil)))) (sgt_name (i := 6) (is := [6]) List.mem_cons_self rfl sc_law.nd rfl (Or.inl rfl)) (sss_one (ss_if (st_not (st_val (se_callW rfl takes0N (ok__law_piece_right T) (hr.mono (by decide : 3 ≤ 5)) (by rfl) T.g__law_piece_right T.F__law_piece_right.kp T.b__law_piece_right rfl (pv 2) (sa_cons (SE.le (se_vS 3 (pv 3) rfl) .sb) (sa_cons (SE.le (se_vS 4 (pv 4) rfl) .sb) (sa_cons (SE.le (se_vS 6 (pv 6) rfl) .sb) sa_nil))) (aLen1 (fun _ _ _ => aLen_cons (fun _ _ _ => aLen_cons (fun _ _ _ => aLen_cons (fun _ _ _ => aLen_nil)))))))) (sss_one (ss_ret (SE.le se_bl .vl))) sss_nil)))
  (sss_cons (ss_if (st_or2 (st_ne rfl hr.units (se_call rfl takes0N (ok_most_covering T) (hr.mono (by decide : 2 ≤ 5)) (by rfl) T.g_most_covering T.F_most_covering.kp T.b_most_covering (sa_cons (SE.le (se_vS 3 (pv 3) rfl) .sb) (sa_cons (SE.le (se_len rfl T.m_len (sa_cons (se_vS 3 (pv 3) rfl) sa_nil)) .vb) sa_nil)) (fun _ _ _ => aLen_cons (fun _ _ _ => aLen_cons (fun _ _ _ => aLen_nil)))) (se_tup (sa_cons (se_len rfl T.m_len (sa_cons (se_vS 3 (pv 3) rfl) sa_nil)) (sa_cons se_int sa_nil)))) (st_ne rfl hr.units (se_call rfl takes0N (ok_length_for T) (hr.mono (by decide : 2 ≤ 5)) (by rfl) T.g_length_for T.F_length_for.kp T.b_length_for (sa_cons (SE.le (se_vS 3 (pv 3) rfl) .sb) (sa_cons (SE.le se_int .vb) sa_nil)) (fun _ _ _ => aLen_cons (fun _ _ _ => aLen_cons (fun _ _ _ => aLen_nil)))) se_int)) (sss_one (ss_ret (SE.le se_bl .vl))) sss_nil)
  (sss_cons (ss_setS (sg_of (i := 3) (se_sl rfl (se_vS 3 (pv 3) rfl) so_none (so_some (se_ix rfl (se_lst (sa_cons se_int (sa_cons se_int (sa_cons se_int (sa_cons se_int sa_nil))))) (se_callW rfl takes0N (ok__law_take T) (hr.mono (by decide : 1 ≤ 5)) (by rfl) T.g__law_take T.F__law_take.kp T.b__law_take rfl (pv 2) (sa_cons (SE.le se_int .vb) sa_nil) (aLen1 (fun _ _ _ => aLen_cons (fun _ _ _ => aLen_nil)))) (fun _ _ => rfl)))) sc_law.nd rfl (Or.inl rfl)) rfl)
  (sss_one (ss_if (st_not (st_val (se_call rfl takes0N (ok__law_lengths_right T) hr (by rfl) T.g__law_lengths_right T.F__law_lengths_right.kp T.b__law_lengths_right (sa_cons (SE.le (se_vS 3 (pv 3) rfl) .sb) (sa_cons (SE.le (se_callW rfl takes0N (ok__law_take T) (hr.mono (by decide : 1 ≤ 5)) (by rfl) T.g__law_take T.F__law_take.kp T.b__law_take rfl (pv 2) (sa_cons (SE.le (se_add (se_len rfl T.m_len (sa_cons (se_vS 3 (pv 3) rfl) sa_nil)) se_int) .vb) sa_nil) (aLen1 (fun _ _ _ => aLen_cons (fun _ _ _ => aLen_nil)))) .vb) sa_nil)) (fun _ _ _ => aLen_cons (fun _ _ _ => aLen_cons (fun _ _ _ => aLen_nil)))))) (sss_one (ss_ret (SE.le se_bl .vl))) sss_nil))))))))))
  (sss_one (ss_ret (SE.le se_bl .vl)))))
end
theorem all_mk {l : PySem.W.OpenLaw} {w : World} {K : PySem.W.Frag} {h : Heap} {mg : Str → Option Value} {fa : Addr} {f0 f1 f2 f3 f4 f5 f6 f7 f8 f9 f10 f11 f12 f13 f14 f15 f16 f17 f18 f19 f20 f21 f22 f23 f24 f25 f26 f27 f28 f29 f30 : Addr} {od0 an0 od1 an1 od2 an2 od3 an3 od4 an4 od5 an5 od6 an6 od7 an7 od8 an8 od9 an9 od10 an10 od11 an11 od12 an12 od13 an13 od14 an14 od15 an15 od16 an16 od17 an17 od18 an18 od19 an19 od20 an20 od21 an21 od22 an22 od23 an23 od24 an24 od25 an25 od26 an26 od27 an27 od28 an28 od29 an29 od30 an30 : Option Addr} {sl0 sl1 sl2 sl3 sl4 sl5 sl6 sl7 sl8 sl9 sl10 sl11 sl12 sl13 sl14 sl15 sl16 sl17 sl18 sl19 sl20 sl21 sl22 sl23 sl24 sl25 sl26 sl27 sl28 sl29 sl30 : Array (Option Value)} {oc0 kV0 dc0 pm0 cd0 ct0 oc1 kV1 dc1 pm1 cd1 ct1 oc2 kV2 dc2 pm2 cd2 ct2 oc3 kV3 dc3 pm3 cd3 ct3 oc4 kV4 dc4 pm4 cd4 ct4 oc5 kV5 dc5 pm5 cd5 ct5 oc6 kV6 dc6 pm6 cd6 ct6 oc7 kV7 dc7 pm7 cd7 ct7 oc8 kV8 dc8 pm8 cd8 ct8 oc9 kV9 dc9 pm9 cd9 ct9 oc10 kV10 dc10 pm10 cd10 ct10 oc11 kV11 dc11 pm11 cd11 ct11 oc12 kV12 dc12 pm12 cd12 ct12 oc13 kV13 dc13 pm13 cd13 ct13 oc14 kV14 dc14 pm14 cd14 ct14 oc15 kV15 dc15 pm15 cd15 ct15 oc16 kV16 dc16 pm16 cd16 ct16 oc17 kV17 dc17 pm17 cd17 ct17 oc18 kV18 dc18 pm18 cd18 ct18 oc19 kV19 dc19 pm19 cd19 ct19 oc20 kV20 dc20 pm20 cd20 ct20 oc21 kV21 dc21 pm21 cd21 ct21 oc22 kV22 dc22 pm22 cd22 ct22 oc23 kV23 dc23 pm23 cd23 ct23 oc24 kV24 dc24 pm24 cd24 ct24 oc25 kV25 dc25 pm25 cd25 ct25 oc26 kV26 dc26 pm26 cd26 ct26 oc27 kV27 dc27 pm27 cd27 ct27 oc28 kV28 dc28 pm28 cd28 ct28 oc29 kV29 dc29 pm29 cd29 ct29 oc30 kV30 dc30 pm30 cd30 ct30 : Value} {t0 : Tok} {cc0 cc1 cc2 cc3 : Addr} (X : K.In h) (G : h.Ns mainGlobals mg) (hfa : mg (Str.ofString "law") = some (.ref fa))
    (a0 : PySem.W.nsIn K mainGlobals (Str.ofString "need_word") = some (some (.ref f0))) (l0 : K.lookup f0 = some ⟨oc0, od0, .func (PySem.W.fnOf (Str.ofString "need_word") (Str.ofString "need_word") (defArgs s_need_word) (defBody s_need_word) (defScope s_need_word) .none kV0 dc0 pm0 an0 cd0 ct0), sl0⟩) (c0 : PySem.W.codeIn K cd0 (Str.ofString "need_word") = true) (k0 : PySem.W.keepIn K (.ref f0) = true)
    (a1 : PySem.W.nsIn K mainGlobals (Str.ofString "need_signs") = some (some (.ref f1))) (l1 : K.lookup f1 = some ⟨oc1, od1, .func (PySem.W.fnOf (Str.ofString "need_signs") (Str.ofString "need_signs") (defArgs s_need_signs) (defBody s_need_signs) (defScope s_need_signs) .none kV1 dc1 pm1 an1 cd1 ct1), sl1⟩) (c1 : PySem.W.codeIn K cd1 (Str.ofString "need_signs") = true) (k1 : PySem.W.keepIn K (.ref f1) = true)
    (a2 : PySem.W.nsIn K mainGlobals (Str.ofString "need_text") = some (some (.ref f2))) (l2 : K.lookup f2 = some ⟨oc2, od2, .func (PySem.W.fnOf (Str.ofString "need_text") (Str.ofString "need_text") (defArgs s_need_text) (defBody s_need_text) (defScope s_need_text) .none kV2 dc2 pm2 an2 cd2 ct2), sl2⟩) (c2 : PySem.W.codeIn K cd2 (Str.ofString "need_text") = true) (k2 : PySem.W.keepIn K (.ref f2) = true)
    (a3 : PySem.W.nsIn K mainGlobals (Str.ofString "greatest_borders") = some (some (.ref f3))) (l3 : K.lookup f3 = some ⟨oc3, od3, .func (PySem.W.fnOf (Str.ofString "greatest_borders") (Str.ofString "greatest_borders") (defArgs s_greatest_borders) (defBody s_greatest_borders) (defScope s_greatest_borders) .none kV3 dc3 pm3 an3 cd3 ct3), sl3⟩) (c3 : PySem.W.codeIn K cd3 (Str.ofString "greatest_borders") = true) (k3 : PySem.W.keepIn K (.ref f3) = true)
    (a4 : PySem.W.nsIn K mainGlobals (Str.ofString "laid_at") = some (some (.ref f4))) (l4 : K.lookup f4 = some ⟨oc4, od4, .func (PySem.W.fnOf (Str.ofString "laid_at") (Str.ofString "laid_at") (defArgs s_laid_at) (defBody s_laid_at) (defScope s_laid_at) .none kV4 dc4 pm4 an4 cd4 ct4), sl4⟩) (c4 : PySem.W.codeIn K cd4 (Str.ofString "laid_at") = true) (k4 : PySem.W.keepIn K (.ref f4) = true)
    (a5 : PySem.W.nsIn K mainGlobals (Str.ofString "need_number") = some (some (.ref f5))) (l5 : K.lookup f5 = some ⟨oc5, od5, .func (PySem.W.fnOf (Str.ofString "need_number") (Str.ofString "need_number") (defArgs s_need_number) (defBody s_need_number) (defScope s_need_number) .none kV5 dc5 pm5 an5 cd5 ct5), sl5⟩) (c5 : PySem.W.codeIn K cd5 (Str.ofString "need_number") = true) (k5 : PySem.W.keepIn K (.ref f5) = true)
    (a6 : PySem.W.nsIn K mainGlobals (Str.ofString "most_of") = some (some (.ref f6))) (l6 : K.lookup f6 = some ⟨oc6, od6, .func (PySem.W.fnOf (Str.ofString "most_of") (Str.ofString "most_of") (defArgs s_most_of) (defBody s_most_of) (defScope s_most_of) .none kV6 dc6 pm6 an6 cd6 ct6), sl6⟩) (c6 : PySem.W.codeIn K cd6 (Str.ofString "most_of") = true) (k6 : PySem.W.keepIn K (.ref f6) = true)
    (a7 : PySem.W.nsIn K mainGlobals (Str.ofString "first_bare") = some (some (.ref f7))) (l7 : K.lookup f7 = some ⟨oc7, od7, .func (PySem.W.fnOf (Str.ofString "first_bare") (Str.ofString "first_bare") (defArgs s_first_bare) (defBody s_first_bare) (defScope s_first_bare) .none kV7 dc7 pm7 an7 cd7 ct7), sl7⟩) (c7 : PySem.W.codeIn K cd7 (Str.ofString "first_bare") = true) (k7 : PySem.W.keepIn K (.ref f7) = true)
    (a8 : PySem.W.nsIn K mainGlobals (Str.ofString "_law_cell_at") = some (some (.ref f8))) (l8 : K.lookup f8 = some ⟨oc8, od8, .func (PySem.W.fnOf (Str.ofString "_law_cell_at") (Str.ofString "_law_cell_at") (defArgs s__law_cell_at) (defBody s__law_cell_at) (defScope s__law_cell_at) .none kV8 dc8 pm8 an8 cd8 ct8), sl8⟩) (c8 : PySem.W.codeIn K cd8 (Str.ofString "_law_cell_at") = true) (k8 : PySem.W.keepIn K (.ref f8) = true)
    (a9 : PySem.W.nsIn K mainGlobals (Str.ofString "_law_deck") = some (some (.ref f9))) (l9 : K.lookup f9 = some ⟨oc9, od9, .func (PySem.W.fnOf (Str.ofString "_law_deck") (Str.ofString "_law_deck") (defArgs s__law_deck) (defBody s__law_deck) (defScope s__law_deck) .none kV9 dc9 pm9 an9 cd9 ct9), sl9⟩) (c9 : PySem.W.codeIn K cd9 (Str.ofString "_law_deck") = true) (k9 : PySem.W.keepIn K (.ref f9) = true)
    (a10 : PySem.W.nsIn K mainGlobals (Str.ofString "_law_take") = some (some (.ref f10))) (l10 : K.lookup f10 = some ⟨oc10, od10, .func (PySem.W.fnOf (Str.ofString "_law_take") (Str.ofString "_law_take") (defArgs s__law_take) (defBody s__law_take) (defScope s__law_take) .none kV10 dc10 pm10 an10 cd10 ct10), sl10⟩) (c10 : PySem.W.codeIn K cd10 (Str.ofString "_law_take") = true) (k10 : PySem.W.keepIn K (.ref f10) = true)
    (a11 : PySem.W.nsIn K mainGlobals (Str.ofString "_law_renamed") = some (some (.ref f11))) (l11 : K.lookup f11 = some ⟨oc11, od11, .func (PySem.W.fnOf (Str.ofString "_law_renamed") (Str.ofString "_law_renamed") (defArgs s__law_renamed) (defBody s__law_renamed) (defScope s__law_renamed) .none kV11 dc11 pm11 an11 cd11 ct11), sl11⟩) (c11 : PySem.W.codeIn K cd11 (Str.ofString "_law_renamed") = true) (k11 : PySem.W.keepIn K (.ref f11) = true)
    (a12 : PySem.W.nsIn K mainGlobals (Str.ofString "borders") = some (some (.ref f12))) (l12 : K.lookup f12 = some ⟨oc12, od12, .func (PySem.W.fnOf (Str.ofString "borders") (Str.ofString "borders") (defArgs s_borders) (defBody s_borders) (defScope s_borders) .none kV12 dc12 pm12 an12 cd12 ct12), sl12⟩) (c12 : PySem.W.codeIn K cd12 (Str.ofString "borders") = true) (k12 : PySem.W.keepIn K (.ref f12) = true)
    (a13 : PySem.W.nsIn K mainGlobals (Str.ofString "lies_at") = some (some (.ref f13))) (l13 : K.lookup f13 = some ⟨oc13, od13, .func (PySem.W.fnOf (Str.ofString "lies_at") (Str.ofString "lies_at") (defArgs s_lies_at) (defBody s_lies_at) (defScope s_lies_at) .none kV13 dc13 pm13 an13 cd13 ct13), sl13⟩) (c13 : PySem.W.codeIn K cd13 (Str.ofString "lies_at") = true) (k13 : PySem.W.keepIn K (.ref f13) = true)
    (a14 : PySem.W.nsIn K mainGlobals (Str.ofString "how_covered") = some (some (.ref f14))) (l14 : K.lookup f14 = some ⟨oc14, od14, .func (PySem.W.fnOf (Str.ofString "how_covered") (Str.ofString "how_covered") (defArgs s_how_covered) (defBody s_how_covered) (defScope s_how_covered) .none kV14 dc14 pm14 an14 cd14 ct14), sl14⟩) (c14 : PySem.W.codeIn K cd14 (Str.ofString "how_covered") = true) (k14 : PySem.W.keepIn K (.ref f14) = true)
    (a15 : PySem.W.nsIn K mainGlobals (Str.ofString "most_covering") = some (some (.ref f15))) (l15 : K.lookup f15 = some ⟨oc15, od15, .func (PySem.W.fnOf (Str.ofString "most_covering") (Str.ofString "most_covering") (defArgs s_most_covering) (defBody s_most_covering) (defScope s_most_covering) .none kV15 dc15 pm15 an15 cd15 ct15), sl15⟩) (c15 : PySem.W.codeIn K cd15 (Str.ofString "most_covering") = true) (k15 : PySem.W.keepIn K (.ref f15) = true)
    (a16 : PySem.W.nsIn K mainGlobals (Str.ofString "length_for") = some (some (.ref f16))) (l16 : K.lookup f16 = some ⟨oc16, od16, .func (PySem.W.fnOf (Str.ofString "length_for") (Str.ofString "length_for") (defArgs s_length_for) (defBody s_length_for) (defScope s_length_for) .none kV16 dc16 pm16 an16 cd16 ct16), sl16⟩) (c16 : PySem.W.codeIn K cd16 (Str.ofString "length_for") = true) (k16 : PySem.W.keepIn K (.ref f16) = true)
    (a17 : PySem.W.nsIn K mainGlobals (Str.ofString "need_both") = some (some (.ref f17))) (l17 : K.lookup f17 = some ⟨oc17, od17, .func (PySem.W.fnOf (Str.ofString "need_both") (Str.ofString "need_both") (defArgs s_need_both) (defBody s_need_both) (defScope s_need_both) .none kV17 dc17 pm17 an17 cd17 ct17), sl17⟩) (c17 : PySem.W.codeIn K cd17 (Str.ofString "need_both") = true) (k17 : PySem.W.keepIn K (.ref f17) = true)
    (a18 : PySem.W.nsIn K mainGlobals (Str.ofString "_law_letters") = some (some (.ref f18))) (l18 : K.lookup f18 = some ⟨oc18, od18, .func (PySem.W.fnOf (Str.ofString "_law_letters") (Str.ofString "_law_letters") (defArgs s__law_letters) (defBody s__law_letters) (defScope s__law_letters) .none kV18 dc18 pm18 an18 cd18 ct18), sl18⟩) (c18 : PySem.W.codeIn K cd18 (Str.ofString "_law_letters") = true) (k18 : PySem.W.keepIn K (.ref f18) = true)
    (a19 : PySem.W.nsIn K mainGlobals (Str.ofString "_law_signs") = some (some (.ref f19))) (l19 : K.lookup f19 = some ⟨oc19, od19, .func (PySem.W.fnOf (Str.ofString "_law_signs") (Str.ofString "_law_signs") (defArgs s__law_signs) (defBody s__law_signs) (defScope s__law_signs) .none kV19 dc19 pm19 an19 cd19 ct19), sl19⟩) (c19 : PySem.W.codeIn K cd19 (Str.ofString "_law_signs") = true) (k19 : PySem.W.keepIn K (.ref f19) = true)
    (a20 : PySem.W.nsIn K mainGlobals (Str.ofString "covered") = some (some (.ref f20))) (l20 : K.lookup f20 = some ⟨oc20, od20, .func (PySem.W.fnOf (Str.ofString "covered") (Str.ofString "covered") (defArgs s_covered) (defBody s_covered) (defScope s_covered) .none kV20 dc20 pm20 an20 cd20 ct20), sl20⟩) (c20 : PySem.W.codeIn K cd20 (Str.ofString "covered") = true) (k20 : PySem.W.keepIn K (.ref f20) = true)
    (a21 : PySem.W.nsIn K mainGlobals (Str.ofString "_law_word") = some (some (.ref f21))) (l21 : K.lookup f21 = some ⟨oc21, od21, .func (PySem.W.fnOf (Str.ofString "_law_word") (Str.ofString "_law_word") (defArgs s__law_word) (defBody s__law_word) (defScope s__law_word) .none kV21 dc21 pm21 an21 cd21 ct21), sl21⟩) (c21 : PySem.W.codeIn K cd21 (Str.ofString "_law_word") = true) (k21 : PySem.W.keepIn K (.ref f21) = true)
    (a22 : PySem.W.nsIn K mainGlobals (Str.ofString "_law_overlaid") = some (some (.ref f22))) (l22 : K.lookup f22 = some ⟨oc22, od22, .func (PySem.W.fnOf (Str.ofString "_law_overlaid") (Str.ofString "_law_overlaid") (defArgs s__law_overlaid) (defBody s__law_overlaid) (defScope s__law_overlaid) .none kV22 dc22 pm22 an22 cd22 ct22), sl22⟩) (c22 : PySem.W.codeIn K cd22 (Str.ofString "_law_overlaid") = true) (k22 : PySem.W.keepIn K (.ref f22) = true)
    (a23 : PySem.W.nsIn K mainGlobals (Str.ofString "_law_bent") = some (some (.ref f23))) (l23 : K.lookup f23 = some ⟨oc23, od23, .func (PySem.W.fnOf (Str.ofString "_law_bent") (Str.ofString "_law_bent") (defArgs s__law_bent) (defBody s__law_bent) (defScope s__law_bent) .none kV23 dc23 pm23 an23 cd23 ct23), sl23⟩) (c23 : PySem.W.codeIn K cd23 (Str.ofString "_law_bent") = true) (k23 : PySem.W.keepIn K (.ref f23) = true)
    (a24 : PySem.W.nsIn K mainGlobals (Str.ofString "_law_first_bare") = some (some (.ref f24))) (l24 : K.lookup f24 = some ⟨oc24, od24, .func (PySem.W.fnOf (Str.ofString "_law_first_bare") (Str.ofString "_law_first_bare") (defArgs s__law_first_bare) (defBody s__law_first_bare) (defScope s__law_first_bare) .none kV24 dc24 pm24 an24 cd24 ct24), sl24⟩) (c24 : PySem.W.codeIn K cd24 (Str.ofString "_law_first_bare") = true) (k24 : PySem.W.keepIn K (.ref f24) = true)
    (a25 : PySem.W.nsIn K mainGlobals (Str.ofString "_law_piece_right") = some (some (.ref f25))) (l25 : K.lookup f25 = some ⟨oc25, od25, .func (PySem.W.fnOf (Str.ofString "_law_piece_right") (Str.ofString "_law_piece_right") (defArgs s__law_piece_right) (defBody s__law_piece_right) (defScope s__law_piece_right) .none kV25 dc25 pm25 an25 cd25 ct25), sl25⟩) (c25 : PySem.W.codeIn K cd25 (Str.ofString "_law_piece_right") = true) (k25 : PySem.W.keepIn K (.ref f25) = true)
    (a26 : PySem.W.nsIn K mainGlobals (Str.ofString "all_covers") = some (some (.ref f26))) (l26 : K.lookup f26 = some ⟨oc26, od26, .func (PySem.W.fnOf (Str.ofString "all_covers") (Str.ofString "all_covers") (defArgs s_all_covers) (defBody s_all_covers) (defScope s_all_covers) .none kV26 dc26 pm26 an26 cd26 ct26), sl26⟩) (c26 : PySem.W.codeIn K cd26 (Str.ofString "all_covers") = true) (k26 : PySem.W.keepIn K (.ref f26) = true)
    (a27 : PySem.W.nsIn K mainGlobals (Str.ofString "_law_pair") = some (some (.ref f27))) (l27 : K.lookup f27 = some ⟨oc27, od27, .func (PySem.W.fnOf (Str.ofString "_law_pair") (Str.ofString "_law_pair") (defArgs s__law_pair) (defBody s__law_pair) (defScope s__law_pair) .none kV27 dc27 pm27 an27 cd27 ct27), sl27⟩) (c27 : PySem.W.codeIn K cd27 (Str.ofString "_law_pair") = true) (k27 : PySem.W.keepIn K (.ref f27) = true)
    (a28 : PySem.W.nsIn K mainGlobals (Str.ofString "_law_word_right") = some (some (.ref f28))) (l28 : K.lookup f28 = some ⟨oc28, od28, .func (PySem.W.fnOf (Str.ofString "_law_word_right") (Str.ofString "_law_word_right") (defArgs s__law_word_right) (defBody s__law_word_right) (defScope s__law_word_right) .none kV28 dc28 pm28 an28 cd28 ct28), sl28⟩) (c28 : PySem.W.codeIn K cd28 (Str.ofString "_law_word_right") = true) (k28 : PySem.W.keepIn K (.ref f28) = true)
    (a29 : PySem.W.nsIn K mainGlobals (Str.ofString "_law_lengths_right") = some (some (.ref f29))) (l29 : K.lookup f29 = some ⟨oc29, od29, .func (PySem.W.fnOf (Str.ofString "_law_lengths_right") (Str.ofString "_law_lengths_right") (defArgs s__law_lengths_right) (defBody s__law_lengths_right) (defScope s__law_lengths_right) .none kV29 dc29 pm29 an29 cd29 ct29), sl29⟩) (c29 : PySem.W.codeIn K cd29 (Str.ofString "_law_lengths_right") = true) (k29 : PySem.W.keepIn K (.ref f29) = true)
    (a30 : PySem.W.nsIn K mainGlobals (Str.ofString "law") = some (some (.ref f30))) (l30 : K.lookup f30 = some ⟨oc30, od30, .func (PySem.W.fnOf (Str.ofString "law") (Str.ofString "law") (defArgs s_law) (defBody s_law) (defScope s_law) .none kV30 dc30 pm30 an30 cd30 ct30), sl30⟩) (c30 : PySem.W.codeIn K cd30 (Str.ofString "law") = true) (k30 : PySem.W.keepIn K (.ref f30) = true)
    (e0 : PySem.W.nsIn K mainGlobals (Str.ofString "LETTERS") = some (some (.str (Str.ofString "abcdefghijklmnopqrstuvwxyz") t0)))
    (z0 : PySem.W.nsIn K mainGlobals (Str.ofString "enumerate") = some none)
    (z1 : PySem.W.nsIn K mainGlobals (Str.ofString "int") = some none)
    (z2 : PySem.W.nsIn K mainGlobals (Str.ofString "len") = some none)
    (z3 : PySem.W.nsIn K mainGlobals (Str.ofString "list") = some none)
    (z4 : PySem.W.nsIn K mainGlobals (Str.ofString "max") = some none)
    (z5 : PySem.W.nsIn K mainGlobals (Str.ofString "min") = some none)
    (z6 : PySem.W.nsIn K mainGlobals (Str.ofString "range") = some none)
    (z7 : PySem.W.nsIn K mainGlobals (Str.ofString "sorted") = some none)
    (z8 : PySem.W.nsIn K mainGlobals (Str.ofString "sum") = some none)
    (z9 : PySem.W.nsIn K mainGlobals (Str.ofString "tuple") = some none)
    (z10 : PySem.W.nsIn K mainGlobals (Str.ofString "zip") = some none)
    (xn0 : PySem.W.nsIn K mainGlobals (Str.ofString "NoWord") = some (some (.ref cc0)))
    (xx0 : PySem.W.excIn K cc0 [.type "ValueError", .type "Exception", .type "BaseException", .type "object"] "ValueError.__new__" = true)
    (xk0 : PySem.W.keepIn K (.ref cc0) = true)
    (xb0 : PySem.W.subIn K (.ref cc0) (.type "BaseException") = some true)
    (xt0 : PySem.W.typeIn K (.ref cc0) = some (.type "type"))
    (xd0 : PySem.W.hasDictIn K cc0 = true)
    (xs0 : PySem.W.subIn K (.ref cc0) (.ref cc0) = some true)
    (xn1 : PySem.W.nsIn K mainGlobals (Str.ofString "NoSign") = some (some (.ref cc1)))
    (xx1 : PySem.W.excIn K cc1 [.type "ValueError", .type "Exception", .type "BaseException", .type "object"] "ValueError.__new__" = true)
    (xk1 : PySem.W.keepIn K (.ref cc1) = true)
    (xb1 : PySem.W.subIn K (.ref cc1) (.type "BaseException") = some true)
    (xt1 : PySem.W.typeIn K (.ref cc1) = some (.type "type"))
    (xd1 : PySem.W.hasDictIn K cc1 = true)
    (xs1 : PySem.W.subIn K (.ref cc1) (.ref cc1) = some true)
    (xn2 : PySem.W.nsIn K mainGlobals (Str.ofString "NoText") = some (some (.ref cc2)))
    (xx2 : PySem.W.excIn K cc2 [.type "ValueError", .type "Exception", .type "BaseException", .type "object"] "ValueError.__new__" = true)
    (xk2 : PySem.W.keepIn K (.ref cc2) = true)
    (xb2 : PySem.W.subIn K (.ref cc2) (.type "BaseException") = some true)
    (xt2 : PySem.W.typeIn K (.ref cc2) = some (.type "type"))
    (xd2 : PySem.W.hasDictIn K cc2 = true)
    (xs2 : PySem.W.subIn K (.ref cc2) (.ref cc2) = some true)
    (xn3 : PySem.W.nsIn K mainGlobals (Str.ofString "NoNumber") = some (some (.ref cc3)))
    (xx3 : PySem.W.excIn K cc3 [.type "ValueError", .type "Exception", .type "BaseException", .type "object"] "ValueError.__new__" = true)
    (xk3 : PySem.W.keepIn K (.ref cc3) = true)
    (xb3 : PySem.W.subIn K (.ref cc3) (.type "BaseException") = some true)
    (xt3 : PySem.W.typeIn K (.ref cc3) = some (.type "type"))
    (xd3 : PySem.W.hasDictIn K cc3 = true)
    (xs3 : PySem.W.subIn K (.ref cc3) (.ref cc3) = some true) :
    ∃ fd : FuncData, (∀ (s : Shared) (v : Value), BindsTo s fd ⟨[v], []⟩ [(Str.ofString "script", v)]) ∧ ∀ base : Heap, K.In base → base.Ns mainGlobals mg → FnOk l.prog w K mg base CX0 6 fa fd [Str.ofString "script"] (spLaw K Ov.F_law_k27) := by
  have e := hfa.symm.trans (PySem.W.mg_of X G a30)
  cases e
  have F0 := fun_mk (st := s_need_word) l0 c0 k0
  have F1 := fun_mk (st := s_need_signs) l1 c1 k1
  have F2 := fun_mk (st := s_need_text) l2 c2 k2
  have F3 := fun_mk (st := s_greatest_borders) l3 c3 k3
  have F4 := fun_mk (st := s_laid_at) l4 c4 k4
  have F5 := fun_mk (st := s_need_number) l5 c5 k5
  have F6 := fun_mk (st := s_most_of) l6 c6 k6
  have F7 := fun_mk (st := s_first_bare) l7 c7 k7
  have F8 := fun_mk (st := s__law_cell_at) l8 c8 k8
  have F9 := fun_mk (st := s__law_deck) l9 c9 k9
  have F10 := fun_mk (st := s__law_take) l10 c10 k10
  have F11 := fun_mk (st := s__law_renamed) l11 c11 k11
  have F12 := fun_mk (st := s_borders) l12 c12 k12
  have F13 := fun_mk (st := s_lies_at) l13 c13 k13
  have F14 := fun_mk (st := s_how_covered) l14 c14 k14
  have F15 := fun_mk (st := s_most_covering) l15 c15 k15
  have F16 := fun_mk (st := s_length_for) l16 c16 k16
  have F17 := fun_mk (st := s_need_both) l17 c17 k17
  have F18 := fun_mk (st := s__law_letters) l18 c18 k18
  have F19 := fun_mk (st := s__law_signs) l19 c19 k19
  have F20 := fun_mk (st := s_covered) l20 c20 k20
  have F21 := fun_mk (st := s__law_word) l21 c21 k21
  have F22 := fun_mk (st := s__law_overlaid) l22 c22 k22
  have F23 := fun_mk (st := s__law_bent) l23 c23 k23
  have F24 := fun_mk (st := s__law_first_bare) l24 c24 k24
  have F25 := fun_mk (st := s__law_piece_right) l25 c25 k25
  have F26 := fun_mk (st := s_all_covers) l26 c26 k26
  have F27 := fun_mk (st := s__law_pair) l27 c27 k27
  have F28 := fun_mk (st := s__law_word_right) l28 c28 k28
  have F29 := fun_mk (st := s__law_lengths_right) l29 c29 k29
  have F30 := fun_mk (st := s_law) l30 c30 k30
  let T : Tp K mg := ⟨_, _, F0, PySem.W.mg_of X G a0, F0.binds (ps := ps_need_word) (fun _ _ _ _ _ _ us hl => match us, hl with | [_], _ => rfl),
    _, _, F1, PySem.W.mg_of X G a1, F1.binds (ps := ps_need_signs) (fun _ _ _ _ _ _ us hl => match us, hl with | [_], _ => rfl),
    _, _, F2, PySem.W.mg_of X G a2, F2.binds (ps := ps_need_text) (fun _ _ _ _ _ _ us hl => match us, hl with | [_], _ => rfl),
    _, _, F3, PySem.W.mg_of X G a3, F3.binds (ps := ps_greatest_borders) (fun _ _ _ _ _ _ us hl => match us, hl with | [_], _ => rfl),
    _, _, F4, PySem.W.mg_of X G a4, F4.binds (ps := ps_laid_at) (fun _ _ _ _ _ _ us hl => match us, hl with | [_, _], _ => rfl),
    _, _, F5, PySem.W.mg_of X G a5, F5.binds (ps := ps_need_number) (fun _ _ _ _ _ _ us hl => match us, hl with | [_], _ => rfl),
    _, _, F6, PySem.W.mg_of X G a6, F6.binds (ps := ps_most_of) (fun _ _ _ _ _ _ us hl => match us, hl with | [_, _], _ => rfl),
    _, _, F7, PySem.W.mg_of X G a7, F7.binds (ps := ps_first_bare) (fun _ _ _ _ _ _ us hl => match us, hl with | [_, _, _], _ => rfl),
    _, _, F8, PySem.W.mg_of X G a8, F8.binds (ps := ps__law_cell_at) (fun _ _ _ _ _ _ us hl => match us, hl with | [_, _], _ => rfl),
    _, _, F9, PySem.W.mg_of X G a9, F9.binds (ps := ps__law_deck) (fun _ _ _ _ _ _ us hl => match us, hl with | [_], _ => rfl),
    _, _, F10, PySem.W.mg_of X G a10, F10.binds (ps := ps__law_take) (fun _ _ _ _ _ _ us hl => match us, hl with | [_, _], _ => rfl),
    _, _, F11, PySem.W.mg_of X G a11, F11.binds (ps := ps__law_renamed) (fun _ _ _ _ _ _ us hl => match us, hl with | [_, _, _], _ => rfl),
    _, _, F12, PySem.W.mg_of X G a12, F12.binds (ps := ps_borders) (fun _ _ _ _ _ _ us hl => match us, hl with | [_], _ => rfl),
    _, _, F13, PySem.W.mg_of X G a13, F13.binds (ps := ps_lies_at) (fun _ _ _ _ _ _ us hl => match us, hl with | [_, _], _ => rfl),
    _, _, F14, PySem.W.mg_of X G a14, F14.binds (ps := ps_how_covered) (fun _ _ _ _ _ _ us hl => match us, hl with | [_, _], _ => rfl),
    _, _, F15, PySem.W.mg_of X G a15, F15.binds (ps := ps_most_covering) (fun _ _ _ _ _ _ us hl => match us, hl with | [_, _], _ => rfl),
    _, _, F16, PySem.W.mg_of X G a16, F16.binds (ps := ps_length_for) (fun _ _ _ _ _ _ us hl => match us, hl with | [_, _], _ => rfl),
    _, _, F17, PySem.W.mg_of X G a17, F17.binds (ps := ps_need_both) (fun _ _ _ _ _ _ us hl => match us, hl with | [_, _], _ => rfl),
    _, _, F18, PySem.W.mg_of X G a18, F18.binds (ps := ps__law_letters) (fun _ _ _ _ _ _ us hl => match us, hl with | [_], _ => rfl),
    _, _, F19, PySem.W.mg_of X G a19, F19.binds (ps := ps__law_signs) (fun _ _ _ _ _ _ us hl => match us, hl with | [_, _, _], _ => rfl),
    _, _, F20, PySem.W.mg_of X G a20, F20.binds (ps := ps_covered) (fun _ _ _ _ _ _ us hl => match us, hl with | [_, _], _ => rfl),
    _, _, F21, PySem.W.mg_of X G a21, F21.binds (ps := ps__law_word) (fun _ _ _ _ _ _ us hl => match us, hl with | [_, _, _], _ => rfl),
    _, _, F22, PySem.W.mg_of X G a22, F22.binds (ps := ps__law_overlaid) (fun _ _ _ _ _ _ us hl => match us, hl with | [_, _, _, _], _ => rfl),
    _, _, F23, PySem.W.mg_of X G a23, F23.binds (ps := ps__law_bent) (fun _ _ _ _ _ _ us hl => match us, hl with | [_, _, _], _ => rfl),
    _, _, F24, PySem.W.mg_of X G a24, F24.binds (ps := ps__law_first_bare) (fun _ _ _ _ _ _ us hl => match us, hl with | [_, _], _ => rfl),
    _, _, F25, PySem.W.mg_of X G a25, F25.binds (ps := ps__law_piece_right) (fun _ _ _ _ _ _ us hl => match us, hl with | [_, _, _, _], _ => rfl),
    _, _, F26, PySem.W.mg_of X G a26, F26.binds (ps := ps_all_covers) (fun _ _ _ _ _ _ us hl => match us, hl with | [_], _ => rfl),
    _, _, F27, PySem.W.mg_of X G a27, F27.binds (ps := ps__law_pair) (fun _ _ _ _ _ _ us hl => match us, hl with | [_, _], _ => rfl),
    _, _, F28, PySem.W.mg_of X G a28, F28.binds (ps := ps__law_word_right) (fun _ _ _ _ _ _ us hl => match us, hl with | [_, _], _ => rfl),
    _, _, F29, PySem.W.mg_of X G a29, F29.binds (ps := ps__law_lengths_right) (fun _ _ _ _ _ _ us hl => match us, hl with | [_, _], _ => rfl),
    _, _, F30, PySem.W.mg_of X G a30, F30.binds (ps := ps_law) (fun _ _ _ _ _ _ us hl => match us, hl with | [_], _ => rfl),
    _, PySem.W.mg_of X G e0,
    PySem.W.mg_none_of X G z0,
    PySem.W.mg_none_of X G z1,
    PySem.W.mg_none_of X G z2,
    PySem.W.mg_none_of X G z3,
    PySem.W.mg_none_of X G z4,
    PySem.W.mg_none_of X G z5,
    PySem.W.mg_none_of X G z6,
    PySem.W.mg_none_of X G z7,
    PySem.W.mg_none_of X G z8,
    PySem.W.mg_none_of X G z9,
    PySem.W.mg_none_of X G z10,
    cc0, ⟨xn0, PySem.W.mg_of X G xn0, xx0, xk0, xb0, xt0, xd0, xs0⟩,
    cc1, ⟨xn1, PySem.W.mg_of X G xn1, xx1, xk1, xb1, xt1, xd1, xs1⟩,
    cc2, ⟨xn2, PySem.W.mg_of X G xn2, xx2, xk2, xb2, xt2, xd2, xs2⟩,
    cc3, ⟨xn3, PySem.W.mg_of X G xn3, xx3, xk3, xb3, xt3, xd3, xs3⟩⟩
  exact ⟨_, fun s v => .of_eq rfl, fun base _ _ => ok_law T⟩
end Lk27
open PySem PySem.W PyProof.Rows
set_option maxHeartbeats 0 in
theorem PySem.Challenge.cw_overlaid_k27_whole_bare_holds : PySem.Challenge.rw_overlaid_k27_whole_bare.Holds := by
  w_on; o_law; k_head; (case hw => w_witness2)
  k_fill
  refine L2.walk_of (l := PySem.Challenge.rw_overlaid_k27_whole_bare) (n := 63) (k := 6) (x := "script") (CX := fun _ => L2.CX0) (sp := fun w => MV.spLaw _ Ov.F_law_k27) rfl (by decide) rfl ⟨rfl, by decide, by decide⟩ (fun w h Y => PySem.W.kIn_of Y) ?F (fun _ _ a ns hl _ hS => ⟨rfl, a, ns, rfl, hS, Ov.true_law_k27 ns hl, fun _ => rfl⟩) (fun _ _ _ _ _ h => h)
  case F =>
    intro w mg fa h KX G hmg
    refine' Lk27.all_mk KX G hmg ?a0 ?l0 ?c0 ?k0 ?a1 ?l1 ?c1 ?k1 ?a2 ?l2 ?c2 ?k2 ?a3 ?l3 ?c3 ?k3 ?a4 ?l4 ?c4 ?k4 ?a5 ?l5 ?c5 ?k5 ?a6 ?l6 ?c6 ?k6 ?a7 ?l7 ?c7 ?k7 ?a8 ?l8 ?c8 ?k8 ?a9 ?l9 ?c9 ?k9 ?a10 ?l10 ?c10 ?k10 ?a11 ?l11 ?c11 ?k11 ?a12 ?l12 ?c12 ?k12 ?a13 ?l13 ?c13 ?k13 ?a14 ?l14 ?c14 ?k14 ?a15 ?l15 ?c15 ?k15 ?a16 ?l16 ?c16 ?k16 ?a17 ?l17 ?c17 ?k17 ?a18 ?l18 ?c18 ?k18 ?a19 ?l19 ?c19 ?k19 ?a20 ?l20 ?c20 ?k20 ?a21 ?l21 ?c21 ?k21 ?a22 ?l22 ?c22 ?k22 ?a23 ?l23 ?c23 ?k23 ?a24 ?l24 ?c24 ?k24 ?a25 ?l25 ?c25 ?k25 ?a26 ?l26 ?c26 ?k26 ?a27 ?l27 ?c27 ?k27 ?a28 ?l28 ?c28 ?k28 ?a29 ?l29 ?c29 ?k29 ?a30 ?l30 ?c30 ?k30 ?e0 ?z0 ?z1 ?z2 ?z3 ?z4 ?z5 ?z6 ?z7 ?z8 ?z9 ?z10 ?xn0 ?xx0 ?xk0 ?xb0 ?xt0 ?xd0 ?xs0 ?xn1 ?xx1 ?xk1 ?xb1 ?xt1 ?xd1 ?xs1 ?xn2 ?xx2 ?xk2 ?xb2 ?xt2 ?xd2 ?xs2 ?xn3 ?xx3 ?xk3 ?xb3 ?xt3 ?xd3 ?xs3
    (case a0 => k_is); (case l0 => k_is); (case c0 => k_is); (case k0 => k_is); (case a1 => k_is); (case l1 => k_is); (case c1 => k_is); (case k1 => k_is); (case a2 => k_is); (case l2 => k_is); (case c2 => k_is); (case k2 => k_is); (case a3 => k_is); (case l3 => k_is); (case c3 => k_is); (case k3 => k_is); (case a4 => k_is); (case l4 => k_is); (case c4 => k_is); (case k4 => k_is); (case a5 => k_is); (case l5 => k_is); (case c5 => k_is); (case k5 => k_is); (case a6 => k_is); (case l6 => k_is); (case c6 => k_is); (case k6 => k_is); (case a7 => k_is); (case l7 => k_is); (case c7 => k_is); (case k7 => k_is); (case a8 => k_is); (case l8 => k_is); (case c8 => k_is); (case k8 => k_is); (case a9 => k_is); (case l9 => k_is); (case c9 => k_is); (case k9 => k_is); (case a10 => k_is); (case l10 => k_is); (case c10 => k_is); (case k10 => k_is); (case a11 => k_is); (case l11 => k_is); (case c11 => k_is); (case k11 => k_is); (case a12 => k_is); (case l12 => k_is); (case c12 => k_is); (case k12 => k_is); (case a13 => k_is); (case l13 => k_is); (case c13 => k_is); (case k13 => k_is); (case a14 => k_is); (case l14 => k_is); (case c14 => k_is); (case k14 => k_is); (case a15 => k_is); (case l15 => k_is); (case c15 => k_is); (case k15 => k_is); (case a16 => k_is); (case l16 => k_is); (case c16 => k_is); (case k16 => k_is); (case a17 => k_is); (case l17 => k_is); (case c17 => k_is); (case k17 => k_is); (case a18 => k_is); (case l18 => k_is); (case c18 => k_is); (case k18 => k_is); (case a19 => k_is); (case l19 => k_is); (case c19 => k_is); (case k19 => k_is); (case a20 => k_is); (case l20 => k_is); (case c20 => k_is); (case k20 => k_is); (case a21 => k_is); (case l21 => k_is); (case c21 => k_is); (case k21 => k_is); (case a22 => k_is); (case l22 => k_is); (case c22 => k_is); (case k22 => k_is); (case a23 => k_is); (case l23 => k_is); (case c23 => k_is); (case k23 => k_is); (case a24 => k_is); (case l24 => k_is); (case c24 => k_is); (case k24 => k_is); (case a25 => k_is); (case l25 => k_is); (case c25 => k_is); (case k25 => k_is); (case a26 => k_is); (case l26 => k_is); (case c26 => k_is); (case k26 => k_is); (case a27 => k_is); (case l27 => k_is); (case c27 => k_is); (case k27 => k_is); (case a28 => k_is); (case l28 => k_is); (case c28 => k_is); (case k28 => k_is); (case a29 => k_is); (case l29 => k_is); (case c29 => k_is); (case k29 => k_is); (case a30 => k_is); (case l30 => k_is); (case c30 => k_is); (case k30 => k_is); (case e0 => k_is); (case z0 => k_is); (case z1 => k_is); (case z2 => k_is); (case z3 => k_is); (case z4 => k_is); (case z5 => k_is); (case z6 => k_is); (case z7 => k_is); (case z8 => k_is); (case z9 => k_is); (case z10 => k_is); (case xn0 => k_is); (case xx0 => k_exc); (case xk0 => k_is); (case xb0 => k_is); (case xt0 => k_is); (case xd0 => k_is); (case xs0 => k_is); (case xn1 => k_is); (case xx1 => k_exc); (case xk1 => k_is); (case xb1 => k_is); (case xt1 => k_is); (case xd1 => k_is); (case xs1 => k_is); (case xn2 => k_is); (case xx2 => k_exc); (case xk2 => k_is); (case xb2 => k_is); (case xt2 => k_is); (case xd2 => k_is); (case xs2 => k_is); (case xn3 => k_is); (case xx3 => k_exc); (case xk3 => k_is); (case xb3 => k_is); (case xt3 => k_is); (case xd3 => k_is); (case xs3 => k_is)

