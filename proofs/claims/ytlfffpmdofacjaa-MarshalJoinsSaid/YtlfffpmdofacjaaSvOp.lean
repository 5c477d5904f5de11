/- Operations with all that hangs on the program's types worked in: what they do to values. -/
import Derived.Test.YtlfffpmdofacjaaSvMono
namespace Go.Sv

/-! ### Temporaries as a function -/
abbrev Env := Nat → Option AV
noncomputable def upd (ρ : Env) (d : Nat) (a : AV) : Env := fun t => match Nat.beq t d with
  | true => some a
  | false => ρ t
noncomputable def updO (ρ : Env) (d : Option Nat) (a : AV) : Env := match d with
  | none => ρ
  | some d => upd ρ d a
def EnvR (E : Tr AV) (ρ : Env) : Prop := ∀ t, t ≤ lim → getP (pathOf t) E = ρ t
theorem EnvR.set {E : Tr AV} {ρ : Env} (h : EnvR E ρ) {d : Nat} (hd : d ≤ lim) (a : AV) : EnvR (setP a (pathOf d) E) (upd ρ d a) := fun t ht => by
  rw [get_set]
  unfold upd
  by_cases e : t = d
  · subst e; rw [if_pos rfl, Nat.beq_refl]
  · rw [if_neg e, h t ht]
    cases hb : Nat.beq t d with
    | true => exact absurd (Nat.eq_of_beq_eq_true hb) e
    | false => rfl
theorem EnvR.put {E : Tr AV} {ρ : Env} (h : EnvR E ρ) {d : Option Nat} (hd : ∀ t, d = some t → t ≤ lim) (a : AV) : EnvR (putE d a E) (updO ρ d a) := by
  cases d with
  | none => exact h
  | some d => exact h.set (hd d rfl) a

inductive Ox where
  | t (i : Nat)
  | c (a : AV)
noncomputable def Ox.ev (ρ : Env) : Ox → AV
  | .t i => (ρ i).getD undefA
  | .c a => a
noncomputable def resO : Operand → Option Ox
  | .tmp t => if t ≤ lim then some (.t t) else none
  | .const v => (absV v).map .c
  | .func f => some (.c (.fn (.func f) [] []))
  | .global _ => none
theorem resO_ok {x : Operand} {r : Ox} (h : resO x = some r) {E : Tr AV} {ρ : Env} (hE : EnvR E ρ) : (opd x).run E = some (r.ev ρ) := by
  cases x with
  | tmp t =>
    simp only [resO] at h
    split at h
    · rename_i ht
      cases h
      unfold opd
      dsimp only
      rw [Nat.ble_eq_true_of_le ht]
      dsimp only
      rw [hE t ht]
      simp only [Ox.ev]
      cases ρ t <;> rfl
    · cases h
  | const v =>
    simp only [resO] at h
    cases hv : absV v with
    | none => rw [hv] at h; cases h
    | some a => rw [hv] at h; cases h; unfold opd; dsimp only; rw [hv]; rfl
  | global g => cases h
  | func f => cases h; rfl
noncomputable def resOs : List Operand → Option (List Ox)
  | [] => some []
  | x :: l => match resO x with
    | none => none
    | some r => match resOs l with
      | none => none
      | some rs => some (r :: rs)
theorem resOs_ok : ∀ {l : List Operand} {rs : List Ox}, resOs l = some rs → ∀ {E : Tr AV} {ρ : Env}, EnvR E ρ → (opds l).run E = some (rs.map (·.ev ρ))
  | [], rs, h, E, ρ, hE => by cases h; rfl
  | x :: l, rs, h, E, ρ, hE => by
    simp only [resOs] at h
    cases hx : resO x with
    | none => rw [hx] at h; cases h
    | some r =>
      rw [hx] at h
      dsimp only at h
      cases hl : resOs l with
      | none => rw [hl] at h; cases h
      | some r2 =>
        rw [hl] at h
        cases h
        unfold opds
        dsimp only
        rw [resO_ok hx hE, resOs_ok hl hE]
        rfl
/-- An operand that may be absent. -/
noncomputable def resOpt : Option Operand → Option (Option Ox)
  | none => some none
  | some x => match resO x with
    | none => none
    | some r => some (some r)
noncomputable def optR (ρ : Env) : Option Ox → Option (Option Nat)
  | none => some none
  | some r => match r.ev ρ with
    | .int _ (.ofNat n) => some (some n)
    | _ => none
theorem resOpt_ok {x : Option Operand} {r : Option Ox} (h : resOpt x = some r) {E : Tr AV} {ρ : Env} (hE : EnvR E ρ) : (optF x).run E = optR ρ r := by
  cases x with
  | none => cases h; rfl
  | some x =>
    simp only [resOpt] at h
    cases hx : resO x with
    | none => rw [hx] at h; cases h
    | some q =>
      rw [hx] at h
      cases h
      unfold optF optR
      dsimp only
      rw [resO_ok hx hE]
      generalize q.ev ρ = a
      split
      · rename_i n e; cases e; rfl
      · rename_i e
        split
        · rename_i k n; exact absurd rfl (e k n)
        · rfl

/-! ### Operations -/
inductive ROp where
  | move (x : Ox)
  | pick (c a b : Ox)
  | alloc (l : List AV)
  | box (x : Ox)
  | build (cs : List AV) (ps : List (Nat × Nat × Ox))
  | buildSl (size len : Nat) (cs : List AV) (ps : List (Nat × Nat × Ox))
  | load1 (x : Ox)
  | loadN (n : Nat) (x : Ox)
  | store (n : Nat) (x y : Ox)
  | nilChk (x : Ox)
  | bin (op : BinOp) (g : Bool) (t : TypeId) (x y : Ox)
  | un (op : UnOp) (x : Ox)
  | cvInt (k : IntKind) (x : Ox)
  | cvStr (x : Ox)
  | cvSame (x : Ox)
  | cvBytes (x : Ox)
  | mkIface (t : TypeId) (x : Ox)
  | mkFunc (f : Fn) (first cap : List Ox)
  | mkMap0
  | mkMap1 (x : Ox)
  | mkSl (size : Nat) (z : List AV) (l c : Ox)
  | slStr (x : Ox) (lo hi : Option Ox)
  | slSl (size : Nat) (x : Ox) (lo hi mx : Option Ox)
  | slArr (n size : Nat) (x : Ox) (lo hi mx : Option Ox)
  | fieldAddr (off : Nat) (x : Ox)
  | field (g : Bool) (n off : Nat) (x : Ox)
  | ixAddr (size : Nat) (x i : Ox)
  | ixAddrArr (len size : Nat) (x i : Ox)
  | ixStr (x i : Ox)
  | ixArr (g : Bool) (len size : Nat) (x i : Ox)
  | lookup (d : TypeDesc) (z : AV) (ok : Bool) (x i : Ox)
  | mapUpd (d : TypeDesc) (m k v : Ox)
  | range (x : Ox)
  | next (x : Ox)
  | assert (z : AV) (ok : Bool) (t : TypeId) (x : Ox)
  | extract (i : Nat) (x : Ox)
  | lenStr (x : Ox)
  | lenSl (x : Ox)
  | lenMap (x : Ox)
  | lenArr (n : Nat) (x : Ox)
  | cap (x : Ox)
  | maxi (mx : Bool) (l : List Ox)
  | appZ (size : Nat) (z : List AV) (s x : Ox)
  | appG (size : Nat) (s x : Ox)
  | copy (size : Nat) (d x : Ox)
  | clear (size : Nat) (z : List AV) (x : Ox)
  | delete (d : TypeDesc) (m k : Ox)
  | callV (f : Ox) (args : List Ox)
  | invoke (r : Ox) (name : String) (args : List Ox)

/-- Cells with parts laid in. -/
noncomputable def fillR (ρ : Env) (cs : List AV) : List (Nat × Nat × Ox) → Option (List AV)
  | [] => some cs
  | (off, size, x) :: ps => match (x.ev ρ).cells with
    | none => none
    | some l => match Nat.beq l.length size with
      | true => match Nat.ble (Nat.add off size) cs.length with
        | true => fillR ρ (layL cs off l) ps
        | false => none
      | false => none

noncomputable def evR (P : Program) (ρ : Env) (H : Heap) : ROp → OR
  | .move x => .val (x.ev ρ) H
  | .pick c a b => match c.ev ρ with
    | .bool true => .val (a.ev ρ) H
    | .bool false => .val (b.ev ρ) H
    | _ => .no
  | .alloc l => newVarA H l
  | .box x => match (x.ev ρ).cells with
    | some l => newVarA H l
    | none => .no
  | .build cs ps => match fillR ρ cs ps with
    | some l => .val (.agg l) H
    | none => .no
  | .buildSl size len cs ps => match fillR ρ cs ps with
    | some l => match newObj H l with
      | some (o, H') => .val (.sl o 0 0 len size (some len)) H'
      | none => .no
    | none => .no
  | .load1 x => match x.ev ρ with
    | .ptr o v i => match readAt H o v i 1 with
      | some [c] => .val c H
      | _ => .no
    | _ => .no
  | .loadN n x => match x.ev ρ with
    | .ptr o v i => match readAt H o v i n with
      | some l => .val (.agg l) H
      | none => .no
    | _ => .no
  | .store n x y => match x.ev ρ with
    | .ptr o v i => match (y.ev ρ).cells with
      | some l => match Nat.beq l.length n with
        | true => match writeAt H o v i l with
          | some H' => .val undefA H'
          | none => .no
        | false => .no
      | none => .no
    | _ => .no
  | .nilChk x => nilCheckA H (x.ev ρ)
  | .bin op g t x y => ret1 H (binA P op g t (x.ev ρ) (y.ev ρ))
  | .un op x => ret1 H (unA op (x.ev ρ))
  | .cvInt k x => match x.ev ρ with
    | .int _ n => .val (.int k (wrapA k n)) H
    | _ => .no
  | .cvStr x => match x.ev ρ with
    | .nilSl => .val (.str 0 0) H
    | .sl o v i len 1 _ => match readAt H o v i len with
      | some l => match convF.bytesA l with
        | some n => .val (.str len n) H
        | none => .no
      | none => .no
    | _ => .no
  | .cvSame x => match x.ev ρ with
    | .str l n => .val (.str l n) H
    | _ => .no
  | .cvBytes x => match x.ev ρ with
    | .str len n => match newObj H ((unpackL len n).map fun (b : Nat) => AV.int .u8 (Int.ofNat b)) with
      | some (o, H') => .val (.sl o 0 0 len 1 none) H'
      | none => .no
    | _ => .no
  | .mkIface t x => .val (.iface t (x.ev ρ)) H
  | .mkFunc f first cap => .val (.fn f (first.map (·.ev ρ)) (cap.map (·.ev ρ))) H
  | .mkMap0 => pushMap H
  | .mkMap1 x => match x.ev ρ with
    | .int _ _ => pushMap H
    | _ => .no
  | .mkSl size z l c => match l.ev ρ, c.ev ρ with
    | .int .i64 (.ofNat l), .int .i64 (.ofNat c) => match Nat.ble l c with
      | true => match Nat.ble c 1048576 with
        | true => match newObj H (repeatL z c) with
          | some (o, H') => .val (.sl o 0 0 l size (some c)) H'
          | none => .no
        | false => .no
      | false => .no
    | _, _ => .no
  | .slStr x lo hi => match x.ev ρ, optR ρ lo, optR ρ hi with
    | .str len n, some lo, some hi =>
      let l := lo.getD 0
      let h := hi.getD len
      match Nat.ble l h with
      | true => match Nat.ble h len with
        | true => .val (.str (Nat.sub h l) (Nat.mod (Nat.div n (Nat.pow 256 l)) (Nat.pow 256 (Nat.sub h l)))) H
        | false => .no
      | false => .no
    | _, _, _ => .no
  | .slSl size x lo hi mx => match x.ev ρ, optR ρ lo, optR ρ hi, optR ρ mx with
    | .sl o v i len esz room, some lo, some hi, some mx => ret1 H (sliceSl size lo hi mx o v i len esz room)
    | .nilSl, some lo, some hi, some none => match Nat.beq (Nat.add (lo.getD 0) (hi.getD 0)) 0 with
      | true => .val .nilSl H
      | false => .no
    | .emp, some lo, some hi, some none => match Nat.beq (Nat.add (lo.getD 0) (hi.getD 0)) 0 with
      | true => .val .emp H
      | false => .no
    | _, _, _, _ => .no
  | .slArr n size x lo hi mx => match x.ev ρ, optR ρ lo, optR ρ hi, optR ρ mx with
    | .ptr o v i, some lo, some hi, some mx => match H.get o with
      | some (.cells _ clen ver false) => match Nat.beq v ver with
        | true => match Nat.ble (Nat.add i (Nat.mul n size)) clen with
          | true => ret1 H (sliceSl size lo hi mx o v i n size (some n))
          | false => .no
        | false => .no
      | _ => .no
    | _, _, _, _ => .no
  | .fieldAddr off x => match x.ev ρ with
    | .ptr o v i => .val (.ptr o v (Nat.add i off)) H
    | _ => .no
  | .field g n off x => match x.ev ρ with
    | .agg l => ret1 H (partA g n l off)
    | _ => .no
  | .ixAddr size x i => match x.ev ρ, i.ev ρ with
    | .sl o v i len esz _, .int _ (.ofNat n) => match Nat.blt n len with
      | true => match Nat.beq esz size with
        | true => .val (.ptr o v (Nat.add i (Nat.mul n esz))) H
        | false => .no
      | false => .no
    | _, _ => .no
  | .ixAddrArr len size x i => match x.ev ρ, i.ev ρ with
    | .ptr o v i, .int _ (.ofNat n) => match Nat.blt n len with
      | true => .val (.ptr o v (Nat.add i (Nat.mul n size))) H
      | false => .no
    | _, _ => .no
  | .ixStr x i => match x.ev ρ, i.ev ρ with
    | .str len n, .int _ (.ofNat i) => match Nat.blt i len with
      | true => .val (.int .u8 (Int.ofNat (Nat.mod (Nat.div n (Nat.pow 256 i)) 256))) H
      | false => .no
    | _, _ => .no
  | .ixArr g len size x i => match x.ev ρ, i.ev ρ with
    | .agg l, .int _ (.ofNat n) => match Nat.blt n len with
      | true => ret1 H (partA g size l (Nat.mul n size))
      | false => .no
    | _, _ => .no
  | .lookup d z ok x i => match mapOf H (x.ev ρ) with
    | none => .no
    | some es => match findA d (i.ev ρ) es with
      | some (some v) => .val (if ok then .tup [v, .bool true] else v) H
      | some none => .val (if ok then .tup [z, .bool false] else z) H
      | none => .no
  | .mapUpd d m k v => match m.ev ρ with
    | .map o => match H.get o with
      | some (.map es clock) => match setMapA d (k.ev ρ) (v.ev ρ) clock es with
        | some (es', true) => .val undefA (H.put o (.map es' (Nat.add clock 1)))
        | some (es', false) => .val undefA (H.put o (.map es' clock))
        | none => .no
      | _ => .no
    | _ => .no
  | .range x => match x.ev ρ with
    | .str len n => .val (.ptr H.next 0 0) (H.push (.iter len n 0))
    | _ => .no
  | .next x => match x.ev ρ with
    | .ptr o 0 0 => match H.get o with
      | some (.iter len n pos) => match Nat.blt pos len with
        | true => match Nat.blt (Nat.mod (Nat.div n (Nat.pow 256 pos)) 256) 128 with
          | true => .val (.tup [.bool true, .int .i64 (Int.ofNat pos), .int .i32 (Int.ofNat (Nat.mod (Nat.div n (Nat.pow 256 pos)) 256))]) (H.put o (.iter len n (Nat.add pos 1)))
          | false => .no
        | false => .val (.tup [.bool false]) H
      | _ => .no
    | _ => .no
  | .assert z ok t x => match x.ev ρ with
    | .nilIf => if ok then .val (.tup [z, .bool false]) H else .no
    | .iface t' v => match Nat.beq t' t with
      | true => .val (if ok then .tup [v, .bool true] else v) H
      | false => if ok then .val (.tup [z, .bool false]) H else .no
    | _ => .no
  | .extract i x => match x.ev ρ with
    | .tup l => ret1 H l[i]?
    | _ => .no
  | .lenStr x => match x.ev ρ with
    | .str l _ => .val (.int .i64 (Int.ofNat l)) H
    | _ => .no
  | .lenSl x => match x.ev ρ with
    | .sl _ _ _ len _ _ => .val (.int .i64 (Int.ofNat len)) H
    | .nilSl => .val (.int .i64 0) H
    | .emp => .val (.int .i64 0) H
    | _ => .no
  | .lenMap x => match x.ev ρ with
    | .nilMap => .val (.int .i64 0) H
    | .map o => match H.get o with
      | some (.map es _) => .val (.int .i64 (Int.ofNat es.length)) H
      | _ => .no
    | _ => .no
  | .lenArr n _ => .val (.int .i64 (Int.ofNat n)) H
  | .cap x => match x.ev ρ with
    | .nilSl => .val (.int .i64 0) H
    | .sl _ _ _ _ _ (some r) => .val (.int .i64 (Int.ofNat r)) H
    | _ => .no
  | .maxi mx l => match (l.map (fun (x : Ox) => x.ev ρ) : List AV) with
    | .int k n :: l => ret1 H (foldMax mx (.int k n) l)
    | _ => .no
  | .appZ size z s x => match x.ev ρ with
    | .int .i64 (.ofNat n) => match Nat.ble n 1048576 with
      | true => appendA H size (s.ev ρ) n (repeatL z n)
      | false => .no
    | _ => .no
  | .appG size s x => match takeA H size (x.ev ρ) with
    | some (n, l) => match Nat.ble n 1048576 with
      | true => appendA H size (s.ev ρ) n l
      | false => .no
    | none => .no
  | .copy size d x => match takeA H size (x.ev ρ) with
    | some (n, l) => match d.ev ρ with
      | .nilSl => .val (.int .i64 0) H
      | .emp => .val (.int .i64 0) H
      | .sl o v i len esz _ => match Nat.beq esz size with
        | true => match writeAt H o v i (l.take (Nat.mul (minN n len) size)) with
          | some H' => .val (.int .i64 (Int.ofNat (minN n len))) H'
          | none => .no
        | false => .no
      | _ => .no
    | none => .no
  | .clear size z x => match x.ev ρ with
    | .nilSl => .val undefA H
    | .emp => .val undefA H
    | .sl o v i len esz _ => match Nat.beq esz size with
      | true => match writeAt H o v i (repeatL z len) with
        | some H' => .val undefA H'
        | none => .no
      | false => .no
    | _ => .no
  | .delete d m k => match m.ev ρ with
    | .map o => match H.get o with
      | some (.map es clock) => match delMapA d (k.ev ρ) es with
        | some es' => .val undefA (H.put o (.map es' clock))
        | none => .no
      | _ => .no
    | _ => .no
  | .callV f args => callVal P H (f.ev ρ) (args.map (·.ev ρ))
  | .invoke r name args => match r.ev ρ with
    | .iface t v => match methodA P t name with
      | some f => match callable P f with
        | true => .call (.fn f) (v :: args.map (·.ev ρ))
        | false => .no
      | none => .no
    | _ => .no

/-! ### How the program's operations become these -/
noncomputable def resParts (place : Nat → Option (Nat × Nat)) : List (Nat × Operand) → Option (List (Nat × Nat × Ox))
  | [] => some []
  | (i, x) :: l => match place i with
    | none => none
    | some (o, s) => match resO x with
      | none => none
      | some r => match resParts place l with
        | none => none
        | some q => some ((o, s, r) :: q)

noncomputable def res1 (x : Operand) (f : Ox → ROp) : Option ROp := match resO x with
  | none => none
  | some r => some (f r)
noncomputable def res2 (x y : Operand) (f : Ox → Ox → ROp) : Option ROp := match resO x with
  | none => none
  | some r => match resO y with
    | none => none
    | some q => some (f r q)
noncomputable def resSlice (size : Nat) (f : Nat → Ox → Option Ox → Option Ox → Option Ox → ROp) (x : Operand) (lo hi mx : Option Operand) : Option ROp :=
  match resO x, resOpt lo, resOpt hi, resOpt mx with
  | some r, some a, some b, some c => some (f size r a b c)
  | _, _, _, _ => none

noncomputable def resCall (P : Program) (c : Call) : Option ROp :=
  match c.callee with
  | .builtin b => match b with
    | .len => match c.argTypes.toList, c.args.toList with
      | [t], [x] => match P.underlying t with
        | some .string => res1 x .lenStr
        | some (.slice _) => res1 x .lenSl
        | some (.map _ _) => res1 x .lenMap
        | some (.array n _) => res1 x (.lenArr n)
        | _ => none
      | _, _ => none
    | .cap => match c.argTypes.toList, c.args.toList with
      | [t], [x] => match P.underlying t with
        | some (.slice _) => res1 x .cap
        | _ => none
      | _, _ => none
    | .max => match resOs c.args.toList with
      | some l => some (.maxi true l)
      | none => none
    | .min => match resOs c.args.toList with
      | some l => some (.maxi false l)
      | none => none
    | .append => match c.argTypes.toList, c.args.toList with
      | [st, xt], [s, x] => match P.underlying st, P.underlying xt with
        | some (.slice elem), some d => match P.info? elem, zeroT P elem with
          | some i, some z => if 0 < i.size ∧ i.bytes ≤ 65536 then match d with
            | .int _ => res2 s x (.appZ i.size z)
            | .slice _ => res2 s x (.appG i.size)
            | .string => res2 s x (.appG i.size)
            | _ => none
            else none
          | _, _ => none
        | _, _ => none
      | _, _ => none
    | .copy => match c.argTypes.toList, c.args.toList with
      | [st, _], [d, x] => match P.underlying st with
        | some (.slice elem) => match sizeT P elem with
          | none => none
          | some size => if 0 < size then res2 d x (.copy size) else none
        | _ => none
      | _, _ => none
    | .clear => match c.argTypes.toList, c.args.toList with
      | [st], [x] => match P.underlying st with
        | some (.slice elem) => match sizeT P elem, zeroT P elem with
          | some size, some z => if 0 < size then res1 x (.clear size z) else none
          | _, _ => none
        | _ => none
      | _, _ => none
    | .delete => match c.argTypes.toList, c.args.toList with
      | [mt, _], [m, k] => match P.underlying mt with
        | some (.map key _) => match keyT P key with
          | some d => res2 m k (.delete d)
          | none => none
        | _ => none
      | _, _ => none
    | _ => none
  | .value f => match resO f, resOs c.args.toList with
    | some g, some l => some (.callV g l)
    | _, _ => none
  | .invoke r name => match resO r, resOs c.args.toList with
    | some g, some l => some (.invoke g name l)
    | _, _ => none

noncomputable def resOp (P : Program) (o : Op) : Option ROp :=
  match o with
  | .move x | .assign x => res1 x .move
  | .pick c a b => match resO c, resO a, resO b with
    | some c, some a, some b => some (.pick c a b)
    | _, _, _ => none
  | .alloc t => match zeroT P t with
    | some l => some (.alloc l)
    | none => none
  | .box _ x => res1 x .box
  | .build t parts => match zeroT P t with
    | none => none
    | some cs => match P.underlying t with
      | some (.struct fields) => match fieldsAt P fields.toList with
        | none => none
        | some pl => match resParts (pl[·]?) parts.toList with
          | none => none
          | some ps => some (.build cs ps)
      | some (.array _ elem) => match sizeT P elem with
        | none => none
        | some size => match resParts (fun i => some (i * size, size)) parts.toList with
          | none => none
          | some ps => some (.build cs ps)
      | _ => none
  | .buildSlice t len parts => match P.underlying t with
    | some (.slice elem) => match sizeT P elem with
      | none => none
      | some size => match zeroT P elem with
        | none => none
        | some z => if len * size ≤ 2 ^ 20 ∧ 0 < size then
            match resParts (fun i => some (i * size, size)) parts.toList with
            | none => none
            | some ps => some (.buildSl size len (repeatL z len) ps)
          else none
    | _ => none
  | .load t a => match aggT P t, sizeT P t with
    | some true, some n => res1 a (.loadN n)
    | some false, some _ => res1 a .load1
    | _, _ => none
  | .store t a x => match sizeT P t with
    | some n => res2 a x (.store n)
    | none => none
  | .nilCheck x => res1 x .nilChk
  | .binOp op t x y _ => res2 x y (.bin op (isConstO x || isConstO y) t)
  | .unOp op _ x => res1 x (.un op)
  | .convert s d x => match P.underlying s, P.underlying d with
    | some _, some (.int k) => res1 x (.cvInt k)
    | some (.slice e), some .string => match P.underlying e with
      | some (.int .u8) => res1 x .cvStr
      | _ => none
    | some _, some .string => res1 x .cvSame
    | some _, some (.slice e) => match P.underlying e, sizeT P e with
      | some (.int .u8), some 1 => res1 x .cvBytes
      | _, _ => none
    | _, _ => none
  | .makeInterface t x => match P.underlying t with
    | some (.interface _) => none
    | some _ => res1 x (.mkIface t)
    | none => none
  | .makeFunc f first cap => match f with
    | .yield _ => none
    | f => match resOs first.toList, resOs cap.toList with
      | some a, some b => some (.mkFunc f a b)
      | _, _ => none
  | .makeMap t r => match r with
    | none => some .mkMap0
    | some x => match P.underlying t with
      | some (.map _ _) => res1 x .mkMap1
      | _ => none
  | .makeSlice t l c => match P.underlying t with
    | some (.slice elem) => match P.info? elem with
      | none => none
      | some i => match zeroT P elem with
        | none => none
        | some z => if 0 < i.size ∧ i.bytes ≤ 2 ^ 16 then res2 l c (.mkSl i.size z) else none
    | _ => none
  | .slice t x lo hi mx => match P.underlying t with
    | some .string => match mx with
      | some _ => none
      | none => match resO x, resOpt lo, resOpt hi with
        | some r, some a, some b => some (.slStr r a b)
        | _, _, _ => none
    | some (.slice elem) => if mx.isSome && hi.isNone then none else match sizeT P elem with
      | none => none
      | some size => resSlice size .slSl x lo hi mx
    | some (.array n elem) => if mx.isSome && hi.isNone then none else match sizeT P elem with
      | none => none
      | some size => resSlice size (.slArr n) x lo hi mx
    | _ => none
  | .fieldAddr s x f => match P.underlying s with
    | some (.struct fields) => match fields[f]? with
      | none => none
      | some fd => match sizeT P fd.type with
        | none => none
        | some 0 => none
        | some _ => res1 x (.fieldAddr fd.offset)
    | _ => none
  | .field t x f => match P.underlying t with
    | some (.struct fields) => match fields[f]? with
      | none => none
      | some fd => match aggT P fd.type, sizeT P fd.type with
        | some g, some n => res1 x (.field g n fd.offset)
        | _, _ => none
    | _ => none
  | .indexAddr t x i => match P.underlying t with
    | some (.slice elem) => match sizeT P elem with
      | none => none
      | some size => res2 x i (.ixAddr size)
    | some (.array len elem) => match sizeT P elem with
      | none => none
      | some size => res2 x i (.ixAddrArr len size)
    | _ => none
  | .index t x i => match P.underlying t with
    | some .string => res2 x i .ixStr
    | some (.array len elem) => match aggT P elem, sizeT P elem with
      | some g, some size => res2 x i (.ixArr g len size)
      | _, _ => none
    | _ => none
  | .lookup t x i ok => match P.underlying t with
    | some (.map key elem) => match keyT P key, zeroV P elem with
      | some d, some z => res2 x i (.lookup d z ok)
      | _, _ => none
    | _ => none
  | .mapUpdate t m k x | .insert t m k x => match P.underlying t with
    | some (.map key _) => match keyT P key with
      | some d => match resO m, resO k, resO x with
        | some m, some k, some x => some (.mapUpd d m k x)
        | _, _, _ => none
      | none => none
    | _ => none
  | .range t x => match P.underlying t with
    | some .string => res1 x .range
    | _ => none
  | .next it s => if s then res1 it .next else none
  | .typeAssert x _ t ok => match P.underlying t with
    | some (.interface _) => none
    | some _ => match zeroV P t with
      | none => none
      | some z => res1 x (.assert z ok t)
    | none => none
  | .extract t i => res1 t (.extract i)
  | .call c => resCall P c
  | _ => none
end Go.Sv
namespace Go.Sv
/-! ### The two are one -/
section ok
variable {P : Program} {E : Tr AV} {ρ : Env}
theorem res1_ok {x : Operand} {f : Ox → ROp} {r : ROp} (h : res1 x f = some r) : ∃ q, resO x = some q ∧ r = f q := by
  unfold res1 at h
  cases hx : resO x with
  | none => rw [hx] at h; cases h
  | some q => rw [hx] at h; cases h; exact ⟨q, rfl, rfl⟩
theorem res2_ok {x y : Operand} {f : Ox → Ox → ROp} {r : ROp} (h : res2 x y f = some r) : ∃ q p, resO x = some q ∧ resO y = some p ∧ r = f q p := by
  unfold res2 at h
  cases hx : resO x with
  | none => rw [hx] at h; cases h
  | some q =>
    rw [hx] at h
    dsimp only at h
    cases hy : resO y with
    | none => rw [hy] at h; cases h
    | some p => rw [hy] at h; cases h; exact ⟨q, p, rfl, rfl, rfl⟩
theorem unary1_run (hE : EnvR E ρ) {x : Operand} {q : Ox} (hx : resO x = some q) (f : Heap → AV → OR) (H : Heap) : (unary1 x f).run E H = f H (q.ev ρ) := by
  show (Option.rec OR.no (fun a => f H a) ((opd x).run E) : OR) = _
  rw [resO_ok hx hE]
theorem binary2_run (hE : EnvR E ρ) {x y : Operand} {q p : Ox} (hx : resO x = some q) (hy : resO y = some p) (f : Heap → AV → AV → OR) (H : Heap) : (binary2 x y f).run E H = f H (q.ev ρ) (p.ev ρ) := by
  show (Option.rec OR.no (fun a => Option.rec OR.no (fun b => f H a b) ((opd y).run E)) ((opd x).run E) : OR) = _
  rw [resO_ok hx hE, resO_ok hy hE]

theorem fillA_run (hE : EnvR E ρ) {place : Nat → Option (Nat × Nat)} : ∀ {l : List (Nat × Operand)} {ps : List (Nat × Nat × Ox)} {cs : List AV}, resParts place l = some ps → ∃ qs, partsAt place l = some qs ∧ fillA cs qs E = fillR ρ cs ps
  | [], ps, cs, h => by cases h; exact ⟨[], rfl, rfl⟩
  | (i, x) :: l, ps, cs, h => by
    simp only [resParts] at h
    cases hp : place i with
    | none => rw [hp] at h; cases h
    | some os =>
      obtain ⟨o, s⟩ := os
      rw [hp] at h
      dsimp only at h
      cases hx : resO x with
      | none => rw [hx] at h; cases h
      | some r =>
        rw [hx] at h
        dsimp only at h
        cases hl : resParts place l with
        | none => rw [hl] at h; cases h
        | some q =>
          rw [hl] at h
          cases h
          obtain ⟨qs, h1, _⟩ := fillA_run hE (cs := cs) hl
          refine ⟨⟨o, s, opd x⟩ :: qs, by simp only [partsAt, hp, h1], ?_⟩
          simp only [fillA, fillR]
          rw [resO_ok hx hE]
          dsimp only
          cases (r.ev ρ).cells with
          | none => rfl
          | some c =>
            dsimp only
            cases Nat.beq c.length s with
            | false => rfl
            | true =>
              dsimp only
              cases Nat.ble (Nat.add o s) cs.length with
              | false => rfl
              | true =>
                dsimp only
                obtain ⟨qs', h1', h2'⟩ := fillA_run hE (cs := layL cs o c) hl
                rw [h1] at h1'
                cases h1'
                exact h2'

theorem resSlice_ok {size : Nat} {f : Nat → Ox → Option Ox → Option Ox → Option Ox → ROp} {x : Operand} {lo hi mx : Option Operand} {r : ROp} (h : resSlice size f x lo hi mx = some r) :
    ∃ q a b c, resO x = some q ∧ resOpt lo = some a ∧ resOpt hi = some b ∧ resOpt mx = some c ∧ r = f size q a b c := by
  unfold resSlice at h
  split at h
  · rename_i q a b c h1 h2 h3 h4
    cases h
    exact ⟨q, a, b, c, h1, h2, h3, h4, rfl⟩
  · cases h

theorem resCall_ok (hE : EnvR E ρ) {c : Call} {r : ROp} (h : resCall P c = some r) (H : Heap) : (callF P c).run E H = evR P ρ H r := by
  unfold resCall at h
  unfold callF
  split at h
  · rename_i b hb
    rw [hb]
    dsimp only
    split at h
    · split at h
      · rename_i t x ht hx
        rw [ht, hx]
        dsimp only
        unfold lenF
        split at h <;> first
          | (cases h; done)
          | (rename_i hu
             obtain ⟨q, h1, rfl⟩ := res1_ok h
             rw [hu]
             dsimp only
             rw [unary1_run hE h1]
             rfl)
      · cases h
    · split at h
      · rename_i t x ht hx
        rw [ht, hx]
        dsimp only
        unfold capF
        split at h
        · rename_i hu
          obtain ⟨q, h1, rfl⟩ := res1_ok h
          rw [hu]
          dsimp only
          rw [unary1_run hE h1]
          rfl
        · cases h
      · cases h
    · split at h
      · rename_i l hl
        cases h
        simp only [maxF, evR]
        rw [resOs_ok hl hE]
        generalize (l.map fun (x : Ox) => x.ev ρ) = vs
        rcases vs with _ | ⟨v, vs⟩
        · rfl
        · cases v <;> rfl
      · cases h
    · split at h
      · rename_i l hl
        cases h
        simp only [maxF, evR]
        rw [resOs_ok hl hE]
        generalize (l.map fun (x : Ox) => x.ev ρ) = vs
        rcases vs with _ | ⟨v, vs⟩
        · rfl
        · cases v <;> rfl
      · cases h
    · split at h
      · rename_i st xt s x ht hx
        unfold appendF
        rw [ht, hx]
        dsimp only
        split at h
        · rename_i elem d hu1 hu2
          rw [hu1, hu2]
          split at h
          · rename_i i z hi hz
            split at h
            · rename_i hc
              split at h
              · rename_i k
                obtain ⟨q, p, h1, h2, rfl⟩ := res2_ok h
                dsimp only
                unfold appendZ
                rw [hi, hz]
                dsimp only
                rw [if_pos hc, binary2_run hE h1 h2]
                rfl
              · obtain ⟨q, p, h1, h2, rfl⟩ := res2_ok h
                dsimp only
                unfold appendG
                rw [hi, hz]
                dsimp only
                rw [if_pos hc, binary2_run hE h1 h2]
                rfl
              · obtain ⟨q, p, h1, h2, rfl⟩ := res2_ok h
                dsimp only
                unfold appendG
                rw [hi, hz]
                dsimp only
                rw [if_pos hc, binary2_run hE h1 h2]
                rfl
              · cases h
            · cases h
          · cases h
        · cases h
      · cases h
    · split at h
      · rename_i st xt d x ht hx
        unfold copyF
        rw [ht, hx]
        dsimp only
        split at h
        · rename_i elem hu
          rw [hu]
          dsimp only
          split at h
          · cases h
          · rename_i size hs
            split at h
            · rename_i hpos
              obtain ⟨q, p, h1, h2, rfl⟩ := res2_ok h
              rw [hs]
              dsimp only
              rw [if_pos hpos, binary2_run hE h1 h2]
              rfl
            · cases h
        · cases h
      · cases h
    · split at h
      · rename_i st x ht hx
        unfold clearF
        rw [ht, hx]
        dsimp only
        split at h
        · rename_i elem hu
          rw [hu]
          dsimp only
          split at h
          · rename_i size z hs hz
            split at h
            · rename_i hpos
              obtain ⟨q, h1, rfl⟩ := res1_ok h
              rw [hs, hz]
              dsimp only
              rw [if_pos hpos, unary1_run hE h1]
              rfl
            · cases h
          · cases h
        · cases h
      · cases h
    · split at h
      · rename_i mt xt m k ht hx
        unfold deleteF
        rw [ht, hx]
        dsimp only
        split at h
        · rename_i key e hu
          rw [hu]
          dsimp only
          split at h
          · rename_i d hd
            obtain ⟨q, p, h1, h2, rfl⟩ := res2_ok h
            rw [hd]
            dsimp only
            rw [binary2_run hE h1 h2]
            rfl
          · cases h
        · cases h
      · cases h
    · cases h
  · rename_i f hf
    rw [hf]
    dsimp only
    split at h
    · rename_i g l hg hl
      cases h
      rw [resO_ok hg hE, resOs_ok hl hE]
      simp only [evR]
    · cases h
  · rename_i x name hx
    rw [hx]
    dsimp only
    split at h
    · rename_i g l hg hl
      cases h
      rw [resO_ok hg hE, resOs_ok hl hE]
      simp only [evR]
      cases g.ev ρ with
      | iface t v =>
        dsimp only
        cases methodA P t name with
        | none => rfl
        | some f =>
          dsimp only
          cases callable P f <;> rfl
      | _ => rfl
    · cases h
end ok
end Go.Sv
