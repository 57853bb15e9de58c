/-
  Models of the functions of the chapter: what each computes, as a Lean function (none: it is not said). Printed by a program of this claim's own.
-/
import Derived.Test.YthlnellnlhkphaaDoorEng5
namespace Go.Proofs.YthlnellnlhkphaaDoor
open Go.Proofs.YthlnellnlhkphaaDoor.Eng
set_option linter.unusedVariables false
set_option linter.unusedSimpArgs false

structure T_hindcastlaw29_Order where
  Side : Int
  At : Int
  Lost : Bool
theorem T_hindcastlaw29_Order.eta (x : T_hindcastlaw29_Order) : T_hindcastlaw29_Order.mk x.Side x.At x.Lost = x := rfl

def c_T_hindcastlaw29_Order (x : T_hindcastlaw29_Order) : List Value := [.int .u8 x.Side, .int .u8 x.At, .bool x.Lost]
theorem c_T_hindcastlaw29_Order_len (x : T_hindcastlaw29_Order) : (c_T_hindcastlaw29_Order x).length = 3 := rfl

structure T_watch_sum where
  n : Int
  is_ : Bool
theorem T_watch_sum.eta (x : T_watch_sum) : T_watch_sum.mk x.n x.is_ = x := rfl

def c_T_watch_sum (x : T_watch_sum) : List Value := [.int .u64 x.n, .bool x.is_]
theorem c_T_watch_sum_len (x : T_watch_sum) : (c_T_watch_sum x).length = 2 := rfl

structure T_watch_entry where
  f : Int
  own : T_watch_sum
  other : T_watch_sum
theorem T_watch_entry.eta (x : T_watch_entry) : T_watch_entry.mk x.f x.own x.other = x := rfl

def c_T_watch_entry (x : T_watch_entry) : List Value := [.int .u64 x.f, .int .u64 x.own.n, .bool x.own.is_, .int .u64 x.other.n, .bool x.other.is_]
theorem c_T_watch_entry_len (x : T_watch_entry) : (c_T_watch_entry x).length = 5 := rfl

structure T_watch_Watch where
  rows : Int
  l : (List T_watch_entry)
  clashed : Bool
theorem T_watch_Watch.eta (x : T_watch_Watch) : T_watch_Watch.mk x.rows x.l x.clashed = x := rfl

structure T_api_Shot where
  X : Int
  Y : Int
  VX : Int
  VY : Int
  Owner : Int
  Life : Int
theorem T_api_Shot.eta (x : T_api_Shot) : T_api_Shot.mk x.X x.Y x.VX x.VY x.Owner x.Life = x := rfl

def c_T_api_Shot (x : T_api_Shot) : List Value := [.int .i32 x.X, .int .i32 x.Y, .int .i32 x.VX, .int .i32 x.VY, .int .u8 x.Owner, .int .u8 x.Life]
theorem c_T_api_Shot_len (x : T_api_Shot) : (c_T_api_Shot x).length = 6 := rfl

structure T_api_Player where
  X : Int
  Y : Int
  VX : Int
  VY : Int
  Health : Int
  Cool : Int
  Face : Int
theorem T_api_Player.eta (x : T_api_Player) : T_api_Player.mk x.X x.Y x.VX x.VY x.Health x.Cool x.Face = x := rfl

def c_T_api_Player (x : T_api_Player) : List Value := [.int .i32 x.X, .int .i32 x.Y, .int .i32 x.VX, .int .i32 x.VY, .int .u8 x.Health, .int .u8 x.Cool, .int .u8 x.Face]
theorem c_T_api_Player_len (x : T_api_Player) : (c_T_api_Player x).length = 7 := rfl

structure T_api_State where
  Frame : Int
  Seed : Int
  Players : (T_api_Player × T_api_Player)
  Shots : (List T_api_Shot)
  Score : (Int × Int)
theorem T_api_State.eta (x : T_api_State) : T_api_State.mk x.Frame x.Seed x.Players x.Shots x.Score = x := rfl

def cg_T_api_State (p : T_api_State × G) : List Value := [.int .u64 p.1.Frame, .int .u64 p.1.Seed, .int .i32 p.1.Players.1.X, .int .i32 p.1.Players.1.Y, .int .i32 p.1.Players.1.VX, .int .i32 p.1.Players.1.VY, .int .u8 p.1.Players.1.Health, .int .u8 p.1.Players.1.Cool, .int .u8 p.1.Players.1.Face, .int .i32 p.1.Players.2.X, .int .i32 p.1.Players.2.Y, .int .i32 p.1.Players.2.VX, .int .i32 p.1.Players.2.VY, .int .u8 p.1.Players.2.Health, .int .u8 p.1.Players.2.Cool, .int .u8 p.1.Players.2.Face, .slice p.2.1 p.2.2.1 p.2.2.2, .int .u16 p.1.Score.1, .int .u16 p.1.Score.2]
theorem cg_T_api_State_len (p : T_api_State × G) : (cg_T_api_State p).length = 19 := rfl
def sh_T_api_State (x : T_api_State) : List T_api_Shot := x.Shots

def gl_state_playerBounds : List Value := [.int .i32 (0 : Int), .int .i32 (61440 : Int), .int .i32 (0 : Int), .int .i32 (28672 : Int), .int .i32 ((-1024) : Int), .int .i32 (1024 : Int), .int .i32 ((-1024) : Int), .int .i32 (1024 : Int), .int .i32 (1 : Int), .int .i32 (100 : Int), .int .i32 (0 : Int), .int .i32 (30 : Int), .int .i32 (0 : Int), .int .i32 (3 : Int)]

def gl_state_shotBounds : List Value := [.int .i32 (0 : Int), .int .i32 (65024 : Int), .int .i32 (0 : Int), .int .i32 (32256 : Int), .int .i32 ((-2048) : Int), .int .i32 (2048 : Int), .int .i32 ((-2048) : Int), .int .i32 (2048 : Int), .int .i32 (0 : Int), .int .i32 (1 : Int), .int .i32 (1 : Int), .int .i32 (40 : Int)]

structure T_api_Box where
  X : Int
  Y : Int
  W : Int
  H : Int
theorem T_api_Box.eta (x : T_api_Box) : T_api_Box.mk x.X x.Y x.W x.H = x := rfl

def c_T_api_Box (x : T_api_Box) : List Value := [.int .i32 x.X, .int .i32 x.Y, .int .i32 x.W, .int .i32 x.H]
theorem c_T_api_Box_len (x : T_api_Box) : (c_T_api_Box x).length = 4 := rfl

structure T_geom_row where
  from_ : Int
  to_ : Int
theorem T_geom_row.eta (x : T_geom_row) : T_geom_row.mk x.from_ x.to_ = x := rfl

def c_T_geom_row (x : T_geom_row) : List Value := [.int .i64 x.from_, .int .i64 x.to_]
theorem c_T_geom_row_len (x : T_geom_row) : (c_T_geom_row x).length = 2 := rfl

structure T_rng_Source where
  S : Int
theorem T_rng_Source.eta (x : T_rng_Source) : T_rng_Source.mk x.S = x := rfl

def c_T_rng_Source (x : T_rng_Source) : List Value := [.int .u64 x.S]
theorem c_T_rng_Source_len (x : T_rng_Source) : (c_T_rng_Source x).length = 1 := rfl

structure T_codec_Writer where
  b : (List Int)
theorem T_codec_Writer.eta (x : T_codec_Writer) : T_codec_Writer.mk x.b = x := rfl

@[reducible] def pl7 (x : T_api_Player) (t : List Value) : List Value := .int .i32 x.X :: .int .i32 x.Y :: .int .i32 x.VX :: .int .i32 x.VY :: .int .u8 x.Health :: .int .u8 x.Cool :: .int .u8 x.Face :: t
@[reducible] def pl14 (x : T_api_Player × T_api_Player) (t : List Value) : List Value := pl7 x.1 (pl7 x.2 t)
@[reducible] def agP (x : T_api_Player) : Value := .agg #[.int .i32 x.X, .int .i32 x.Y, .int .i32 x.VX, .int .i32 x.VY, .int .u8 x.Health, .int .u8 x.Cool, .int .u8 x.Face]
@[reducible] def agS (x : T_api_State) (a : Option Addr) (n c : Nat) : Value := .agg #[.int .u64 x.Frame, .int .u64 x.Seed, .int .i32 x.Players.1.X, .int .i32 x.Players.1.Y, .int .i32 x.Players.1.VX, .int .i32 x.Players.1.VY, .int .u8 x.Players.1.Health, .int .u8 x.Players.1.Cool, .int .u8 x.Players.1.Face, .int .i32 x.Players.2.X, .int .i32 x.Players.2.Y, .int .i32 x.Players.2.VX, .int .i32 x.Players.2.VY, .int .u8 x.Players.2.Health, .int .u8 x.Players.2.Cool, .int .u8 x.Players.2.Face, .slice a n c, .int .u16 x.Score.1, .int .u16 x.Score.2]
@[reducible] def st19 (x : T_api_State) (a : Option Addr) (n c : Nat) (t : List Value) : List Value := .int .u64 x.Frame :: .int .u64 x.Seed :: pl14 x.Players (.slice a n c :: .int .u16 x.Score.1 :: .int .u16 x.Score.2 :: t)
def m_watch_New (F : Nat) (p0 : Int) : Option ((Option T_watch_Watch)) :=
  (Option.bind (cond (decide (p0 < (1 : Int))) (some (true)) (some ((decide ((256 : Int) < p0))))) fun v8 => (cond v8 (some none) (some (some
    (T_watch_Watch.mk (IntKind.wrap .u64 p0) ([] : List T_watch_entry) false)))))

def m_watch_Watch_is_nil0 (F : Nat) : Option (Bool) :=
  some false

def m_watch_Watch_told_nil0_f3_watch_ownSide (F : Nat) (p1 : Int) (p2 : Int) : Option (Int) :=
  (Option.bind (m_watch_Watch_is_nil0 F) fun v13 => (cond (!v13) (some (1 : Int)) none))

def m_watch_Watch_Own_nil0 (F : Nat) (p1 : Int) (p2 : Int) : Option (Int) :=
  (Option.bind (m_watch_Watch_told_nil0_f3_watch_ownSide F p1 p2) fun v10 => some v10)

def m_watch_Watch_told_nil0_f3_watch_otherSide (F : Nat) (p1 : Int) (p2 : Int) : Option (Int) :=
  (Option.bind (m_watch_Watch_is_nil0 F) fun v13 => (cond (!v13) (some (1 : Int)) none))

def m_watch_Watch_Other_nil0 (F : Nat) (p1 : Int) (p2 : Int) : Option (Int) :=
  (Option.bind (m_watch_Watch_told_nil0_f3_watch_otherSide F p1 p2) fun v10 => some v10)

def m_watch_Watch_is (F : Nat) (p0 : T_watch_Watch) : Option (Bool) :=
  some (decide ((0 : Int) < p0.rows))

def m_cmp_isNaN_uint64 (F : Nat) (p0 : Int) : Option (Bool) :=
  some (p0 != p0)

def m_cmp_Compare_uint64 (F : Nat) (p0 : Int) (p1 : Int) : Option (Int) :=
  (Option.bind (m_cmp_isNaN_uint64 F p0) fun v8 => (Option.bind (m_cmp_isNaN_uint64 F p1) fun v10 => (cond v8 (cond v10 (some (0 : Int)) (some (-1 :
    Int))) (cond v10 (some (1 : Int)) (cond (decide (p0 < p1)) (some (-1 : Int)) (cond (decide (p1 < p0)) (some (1 : Int)) (some (0 : Int))))))))

def m_watch_Watch_at_1 (F : Nat) (p0 : T_watch_entry) (p1 : Int) : Option (Int) :=
  (Option.bind (m_cmp_Compare_uint64 F p0.f p1) fun v8 => some v8)

def m_slices_BinarySearchFunc___watch_entry_watch_entry_uint64_f2_watch_Watch_at_1_L8 (F : Nat) (p0 : (List T_watch_entry)) (p1 : Int) : Nat → Int → Int → Option (Int)
  | 0, _, _ => none
  | n + 1, zb, za =>
      (cond (decide (zb < za)) (Option.bind (getI p0 (IntKind.wrap .i64 ((IntKind.wrap .u64 (IntKind.wrap .i64 (zb + za))) / 2 ^ (min 1
        (IntKind.bits .u64))))) fun v27 => (Option.bind (m_watch_Watch_at_1 F v27 p1) fun v30 => (cond (decide (v30 < (0 : Int)))
        (m_slices_BinarySearchFunc___watch_entry_watch_entry_uint64_f2_watch_Watch_at_1_L8 F p0 p1 n (IntKind.wrap .i64 ((IntKind.wrap .i64
        ((IntKind.wrap .u64 (IntKind.wrap .i64 (zb + za))) / 2 ^ (min 1 (IntKind.bits .u64)))) + (1 : Int))) za)
        (m_slices_BinarySearchFunc___watch_entry_watch_entry_uint64_f2_watch_Watch_at_1_L8 F p0 p1 n zb (IntKind.wrap .i64 ((IntKind.wrap .u64
        (IntKind.wrap .i64 (zb + za))) / 2 ^ (min 1 (IntKind.bits .u64)))))))) (some zb))

def m_slices_BinarySearchFunc___watch_entry_watch_entry_uint64_f2_watch_Watch_at_1 (F : Nat) (p0 : (List T_watch_entry)) (p1 : Int) : Option (Int × Bool) :=
  (Option.bind (m_slices_BinarySearchFunc___watch_entry_watch_entry_uint64_f2_watch_Watch_at_1_L8 F p0 p1 F (0 : Int) (p0.length : Int)) fun za =>
    (Option.bind (cond (decide (za < (p0.length : Int))) ((Option.bind (getI p0 za) fun v43 => (Option.bind (m_watch_Watch_at_1 F v43 p1) fun v46
    => some ((v46 == (0 : Int)))))) (some (false))) fun v48 => some (za, v48)))

def m_watch_Watch_at (F : Nat) (p0 : T_watch_Watch) (p1 : Int) : Option (T_watch_Watch × (Option Int)) :=
  (Option.bind (m_slices_BinarySearchFunc___watch_entry_watch_entry_uint64_f2_watch_Watch_at_1 F p0.l p1) fun (za, zb) => (cond zb
    (Option.bind (getI p0.l za) fun v67 => some (p0, (some za))) (cond (decide ((p0.l.length : Int) < (8 : Int))) (Option.bind (insM F p0.l
    za ([(T_watch_entry.mk p1 (T_watch_sum.mk (0 : Int) false) (T_watch_sum.mk (0 : Int) false))] : List T_watch_entry)) fun v56 => (Option.bind
    (getI v56 za) fun v67 => some ((T_watch_Watch.mk p0.rows v56 p0.clashed), (some za)))) (cond (za == (0 : Int)) (some (p0, none))
    (Option.bind (insM F p0.l za ([(T_watch_entry.mk p1 (T_watch_sum.mk (0 : Int) false) (T_watch_sum.mk (0 : Int) false))] : List T_watch_entry))
    fun v25 => (Option.bind (delM F v25 (0 : Int) (1 : Int)) fun v33 => (Option.bind (getI v33 (IntKind.wrap .i64 (za - (1 : Int)))) fun v67 =>
    some ((T_watch_Watch.mk p0.rows v33 p0.clashed), (some (IntKind.wrap .i64 (za - (1 : Int))))))))))))

def m_watch_Watch_told_f3_watch_ownSide (F : Nat) (p0 : T_watch_Watch) (p1 : Int) (p2 : Int) : Option (T_watch_Watch × Int) :=
  (Option.bind (m_watch_Watch_is F p0) fun v13 => (cond (!v13) (some (p0, (1 : Int))) (Option.bind (remI p1 p0.rows) fun v21 => (cond (v21 != (0 :
    Int)) (some (p0, (2 : Int))) (Option.bind (m_watch_Watch_at F p0 p1) fun (za, v25) => poE ((cond za.clashed (some (za, (14 : Int))) (some
    (za, (0 : Int))))) (fun v25s => (Option.bind (getI za.l v25s) fun v25x => (Option.bind (cond za.clashed (some (true)) ((Option.bind (cond
    v25x.own.is_ (some ((v25x.own.n != p2))) (some (false))) fun v48 => some (v48)))) fun v49 => (cond (!v25x.own.is_) (Option.bind (cond v49 (some
    (true)) ((Option.bind (cond v25x.other.is_ (some ((p2 != v25x.other.n))) (some (false))) fun v91 => some (v91)))) fun v92 => (cond v92 (some
    ((T_watch_Watch.mk za.rows (setI za.l v25s (T_watch_entry.mk v25x.f (T_watch_sum.mk p2 true) v25x.other)) v92), (14 : Int))) (some
    ((T_watch_Watch.mk za.rows (setI za.l v25s (T_watch_entry.mk v25x.f (T_watch_sum.mk p2 true) v25x.other)) v92), (0 : Int))))) (Option.bind
    (cond v49 (some (true)) ((Option.bind (cond v25x.own.is_ (some (v25x.other.is_)) (some (false))) fun v78 => (Option.bind (cond v78 (some
    ((v25x.own.n != v25x.other.n))) (some (false))) fun v91 => some (v91))))) fun v92 => (cond v92 (some ((T_watch_Watch.mk za.rows za.l v92),
    (14 : Int))) (some ((T_watch_Watch.mk za.rows za.l v92), (0 : Int))))))))) v25)))))

def m_watch_Watch_Own (F : Nat) (p0 : T_watch_Watch) (p1 : Int) (p2 : Int) : Option (T_watch_Watch × Int) :=
  (Option.bind (m_watch_Watch_told_f3_watch_ownSide F p0 p1 p2) fun (za, v10) => some (za, v10))

def m_watch_Watch_told_f3_watch_otherSide (F : Nat) (p0 : T_watch_Watch) (p1 : Int) (p2 : Int) : Option (T_watch_Watch × Int) :=
  (Option.bind (m_watch_Watch_is F p0) fun v13 => (cond (!v13) (some (p0, (1 : Int))) (Option.bind (remI p1 p0.rows) fun v21 => (cond (v21 != (0 :
    Int)) (some (p0, (2 : Int))) (Option.bind (m_watch_Watch_at F p0 p1) fun (za, v25) => poE ((cond za.clashed (some (za, (14 : Int))) (some
    (za, (0 : Int))))) (fun v25s => (Option.bind (getI za.l v25s) fun v25x => (Option.bind (cond za.clashed (some (true)) ((Option.bind (cond
    v25x.other.is_ (some ((v25x.other.n != p2))) (some (false))) fun v48 => some (v48)))) fun v49 => (cond (!v25x.other.is_) (Option.bind (cond v49
    (some (true)) ((Option.bind (cond v25x.own.is_ (some (true)) (some (false))) fun v78 => (Option.bind (cond v78 (some ((v25x.own.n != p2))) (some
    (false))) fun v91 => some (v91))))) fun v92 => (cond v92 (some ((T_watch_Watch.mk za.rows (setI za.l v25s (T_watch_entry.mk v25x.f v25x.own
    (T_watch_sum.mk p2 true))) v92), (14 : Int))) (some ((T_watch_Watch.mk za.rows (setI za.l v25s (T_watch_entry.mk v25x.f v25x.own
    (T_watch_sum.mk p2 true))) v92), (0 : Int))))) (Option.bind (cond v49 (some (true)) ((Option.bind (cond v25x.own.is_ (some (v25x.other.is_)) (some
    (false))) fun v78 => (Option.bind (cond v78 (some ((v25x.own.n != v25x.other.n))) (some (false))) fun v91 => some (v91))))) fun v92 => (cond v92
    (some ((T_watch_Watch.mk za.rows za.l v92), (14 : Int))) (some ((T_watch_Watch.mk za.rows za.l v92), (0 : Int))))))))) v25)))))

def m_watch_Watch_Other (F : Nat) (p0 : T_watch_Watch) (p1 : Int) (p2 : Int) : Option (T_watch_Watch × Int) :=
  (Option.bind (m_watch_Watch_told_f3_watch_otherSide F p0 p1 p2) fun (za, v10) => some (za, v10))

def m_watch_Watch_Agreed_L14 (F : Nat) (p0 : T_watch_Watch) : Nat → Int → Bool → Int → Option (Int × Bool)
  | 0, _, _, _ => none
  | n + 1, zb, zc, za =>
      (cond (decide (za < (p0.l.length : Int))) (Option.bind (getI p0.l za) fun v16 => (Option.bind (cond v16.own.is_ (some (((v16.own.n ==
        v16.other.n) && (v16.own.is_ == v16.other.is_)))) (some (false))) fun v27 => (cond v27 (m_watch_Watch_Agreed_L14 F p0 n v16.f true
        (IntKind.wrap .i64 (za + (1 : Int)))) (m_watch_Watch_Agreed_L14 F p0 n zb zc (IntKind.wrap .i64 (za + (1 : Int))))))) (some
        (zb, zc)))

def m_watch_Watch_Agreed (F : Nat) (p0 : T_watch_Watch) : Option (Int × Bool) :=
  (Option.bind (m_watch_Watch_is F p0) fun v7 => (cond (!v7) (some ((0 : Int), false)) (Option.bind (m_watch_Watch_Agreed_L14 F p0 F (0 : Int) false
    (0 : Int)) fun (za, zb) => some (za, zb))))

def m_watch_Watch_Clashed (F : Nat) (p0 : T_watch_Watch) : Option (Bool) :=
  (Option.bind (m_watch_Watch_is F p0) fun v4 => (Option.bind (cond v4 (some (p0.clashed)) (some (false))) fun v10 => some v10))

def m_hindcastlaw29_awake (F : Nat) : Option (Bool) :=
  (Option.bind (m_watch_New F (4 : Int)) fun v4 => poE (some false) (fun v4s => (Option.bind (m_watch_Watch_Own F v4s (4 : Int) (7 : Int)) fun (zq,
    v9) => (Option.bind (cond (v9 != (0 : Int)) (some (true, zq.rows, zq.l, zq.clashed)) ((Option.bind (m_watch_Watch_Other F zq (4 : Int) (7
    : Int)) fun (zm, v14) => some ((v14 != (0 : Int)), zm.rows, zm.l, zm.clashed)))) fun (v16, zd, ze, zf) =>
    (Option.bind (cond v16 (some (true, zd, ze, zf)) ((Option.bind (m_watch_Watch_Other F (T_watch_Watch.mk zd
    ze zf) (6 : Int) (1 : Int)) fun (zn, v19) => some ((v19 != (2 : Int)), zn.rows, zn.l, zn.clashed)))) fun (v21,
    za, zb, zc) => (cond v21 (some false) (Option.bind (m_watch_Watch_Agreed F (T_watch_Watch.mk za zb
    zc)) fun (zr, zs) => (Option.bind (cond (zr == (4 : Int)) (some (zs)) (some (false))) fun v31 => (Option.bind (cond v31
    ((Option.bind (m_watch_Watch_Other F (T_watch_Watch.mk za zb zc) (8 : Int) (1 : Int)) fun (zo, v34) => some ((v34 ==
    (0 : Int)), zo.rows, zo.l, zo.clashed))) (some (false, za, zb, zc))) fun (v36, zg, zh,
    zi) => (Option.bind (cond v36 ((Option.bind (m_watch_Watch_Own F (T_watch_Watch.mk zg zh zi) (8 : Int) (9 :
    Int)) fun (zp, v39) => some ((v39 == (14 : Int)), zp.rows, zp.l, zp.clashed))) (some (false, zg, zh, zi)))
    fun (v41, zj, zk, zl) => (Option.bind (cond v41 ((Option.bind (m_watch_Watch_Clashed F (T_watch_Watch.mk zj
    zk zl)) fun v44 => some (v44))) (some (false))) fun v45 => some v45)))))))))) v4)

def m_state_Start_L8 (F : Nat) : Nat → Int → (T_api_Player × T_api_Player) → Option ((T_api_Player × T_api_Player))
  | 0, _, _ => none
  | n + 1, za, zb =>
      (cond (decide (za < (2 : Int))) (cond (za == (0 : Int)) (m_state_Start_L8 F n (IntKind.wrap .i64 (za + (1 : Int))) ((T_api_Player.mk
        (IntKind.wrap .i32 ((8192 : Int) + (IntKind.wrap .i32 ((IntKind.wrap .i32 za) * (45056 : Int))))) (14336 : Int) (0 : Int) (0 : Int) (100 :
        Int) (0 : Int) (IntKind.wrap .u8 za)), zb.2)) (cond (za == (1 : Int)) (m_state_Start_L8 F n (IntKind.wrap .i64 (za + (1 : Int)))
        (zb.1, (T_api_Player.mk (IntKind.wrap .i32 ((8192 : Int) + (IntKind.wrap .i32 ((IntKind.wrap .i32 za) * (45056 : Int))))) (14336 :
        Int) (0 : Int) (0 : Int) (100 : Int) (0 : Int) (IntKind.wrap .u8 za)))) none)) (some zb))

def m_state_Start (F : Nat) (p0 : Int) : Option (T_api_State) :=
  (Option.bind (m_state_Start_L8 F F (0 : Int) ((T_api_Player.mk (0 : Int) (0 : Int) (0 : Int) (0 : Int) (0 : Int) (0 : Int) (0 : Int)),
    (T_api_Player.mk (0 : Int) (0 : Int) (0 : Int) (0 : Int) (0 : Int) (0 : Int) (0 : Int)))) fun za => some (T_api_State.mk (0 : Int) p0
    za ([] : List T_api_Shot) ((0 : Int), (0 : Int))))

def m_slices_Clone___api_Shot_api_Shot (F : Nat) (p0 : (List T_api_Shot)) : Option ((List T_api_Shot)) :=
  (Option.bind (appI ([] : List T_api_Shot) p0) fun v7 => some v7)

def m_state_Copy (F : Nat) (p0 : T_api_State) : Option (T_api_State) :=
  (Option.bind (m_slices_Clone___api_Shot_api_Shot F p0.Shots) fun v5 => some (T_api_State.mk p0.Frame p0.Seed p0.Players v5 p0.Score))

def m_state_ofPlayer (F : Nat) (p0 : T_api_Player) : Option ((List Int)) :=
  some ([p0.X, p0.Y, p0.VX, p0.VY, (IntKind.wrap .i32 p0.Health), (IntKind.wrap .i32 p0.Cool), (IntKind.wrap .i32 p0.Face)] : List Int)

def m_state_within_L6 (F : Nat) (p0 : (List Int)) (p1 : (List (Int × Int))) : Nat → Int → Option ((Bool) ⊕ (Bool))
  | 0, _ => none
  | n + 1, za =>
      (cond (decide (za < (p0.length : Int))) (Option.bind (getI p0 za) fun v13 => (Option.bind (getI p1 za) fun v17 => (Option.bind (cond
        (decide (v13 < v17.1)) (some (true)) ((Option.bind (getI p0 za) fun v24 => (Option.bind (getI p1 za) fun v28 => some ((decide (v28.2 <
        v24))))))) fun v32 => (cond v32 (some (.inr false)) (m_state_within_L6 F p0 p1 n (IntKind.wrap .i64 (za + (1 : Int)))))))) (some (.inl
        false)))

def m_state_within (F : Nat) (p0 : (List Int)) (p1 : (List (Int × Int))) : Option (Bool) :=
  (Option.bind (m_state_within_L6 F p0 p1 F (0 : Int)) (orE (fun za => some true) (fun r7 => some r7)))

def m_state_ofShot (F : Nat) (p0 : T_api_Shot) : Option ((List Int)) :=
  some ([p0.X, p0.Y, p0.VX, p0.VY, (IntKind.wrap .i32 p0.Owner), (IntKind.wrap .i32 p0.Life)] : List Int)

def m_state_Check_1 (F : Nat) (p0 : T_api_Shot) (p1 : (Arr (Int × Int) 6)) : Option (Bool) :=
  (Option.bind (m_state_ofShot F p0) fun v5 => (Option.bind (m_state_within F v5 p1.1) fun v7 => some (!v7)))

def m_slices_IndexFunc___api_Shot_api_Shot_f1_state_Check_1_L6 (F : Nat) (p0 : (List T_api_Shot)) (p1c0 : (Arr (Int × Int) 6)) : Nat → Int → Option ((Int) ⊕ (Int))
  | 0, _ => none
  | n + 1, za =>
      (cond (decide (za < (p0.length : Int))) (Option.bind (getI p0 za) fun v14 => (Option.bind (m_state_Check_1 F v14 p1c0) fun v16 => (cond v16
        (some (.inr za)) (m_slices_IndexFunc___api_Shot_api_Shot_f1_state_Check_1_L6 F p0 p1c0 n (IntKind.wrap .i64 (za + (1 : Int))))))) (some
        (.inl (0 : Int))))

def m_slices_IndexFunc___api_Shot_api_Shot_f1_state_Check_1 (F : Nat) (p0 : (List T_api_Shot)) (p1c0 : (Arr (Int × Int) 6)) : Option (Int) :=
  (Option.bind (m_slices_IndexFunc___api_Shot_api_Shot_f1_state_Check_1_L6 F p0 p1c0 F (0 : Int)) (orE (fun za => some (-1 : Int)) (fun r7 => some
    r7)))

def m_slices_ContainsFunc___api_Shot_api_Shot_f1_state_Check_1 (F : Nat) (p0 : (List T_api_Shot)) (p1c0 : (Arr (Int × Int) 6)) : Option (Bool) :=
  (Option.bind (m_slices_IndexFunc___api_Shot_api_Shot_f1_state_Check_1 F p0 p1c0) fun v7 => some (decide ((0 : Int) ≤ v7)))

def m_state_Check_L10 (F : Nat) (p0 : T_api_State) : Nat → Bool → Int → Option (Bool)
  | 0, _, _ => none
  | n + 1, zb, za =>
      (cond (decide (za < (2 : Int))) (cond (za == (0 : Int)) ((Option.bind (cond zb ((Option.bind (m_state_ofPlayer F p0.Players.1) fun
        v22 => (Option.bind (m_state_within F v22 ([((0 : Int), (61440 : Int)), ((0 : Int), (28672 : Int)), (((-1024) : Int), (1024 : Int)), (((-1024)
        : Int), (1024 : Int)), ((1 : Int), (100 : Int)), ((0 : Int), (30 : Int)), ((0 : Int), (3 : Int))] : List (Int × Int))) fun v24 => some
        (v24)))) (some (false))) fun v25 => m_state_Check_L10 F p0 n v25 (IntKind.wrap .i64 (za + (1 : Int))))) (cond (za == (1 : Int))
        ((Option.bind (cond zb ((Option.bind (m_state_ofPlayer F p0.Players.2) fun v22 => (Option.bind (m_state_within F v22 ([((0 : Int), (61440 :
        Int)), ((0 : Int), (28672 : Int)), (((-1024) : Int), (1024 : Int)), (((-1024) : Int), (1024 : Int)), ((1 : Int), (100 : Int)), ((0 : Int), (30
        : Int)), ((0 : Int), (3 : Int))] : List (Int × Int))) fun v24 => some (v24)))) (some (false))) fun v25 => m_state_Check_L10 F p0 n v25
        (IntKind.wrap .i64 (za + (1 : Int))))) none)) (some zb))

def m_state_Check (F : Nat) (p0 : T_api_State) : Option (Int) :=
  (Option.bind (m_state_Check_L10 F p0 F (decide ((p0.Shots.length : Int) ≤ (8 : Int))) (0 : Int)) fun za => (Option.bind (cond (!za) (some
    (true)) ((Option.bind (m_slices_ContainsFunc___api_Shot_api_Shot_f1_state_Check_1 F p0.Shots (⟨[((0 : Int), (65024 : Int)), ((0 : Int), (32256 :
    Int)), (((-2048) : Int), (2048 : Int)), (((-2048) : Int), (2048 : Int)), ((0 : Int), (1 : Int)), ((1 : Int), (40 : Int))], rfl⟩ : Arr (Int × Int)
    6)) fun v33 => some (v33)))) fun v34 => (cond v34 (some (4 : Int)) (some (0 : Int)))))

def m_input_Legal (F : Nat) (p0 : Int) : Option (Bool) :=
  some (decide (p0 < (64 : Int)))

def m_input_way (F : Nat) (p0 : Int) (p1 : Int) (p2 : Int) : Option (Int) :=
  (cond ((bits .and .u8 p0 (bits .or .u8 p1 p2)) == p1) (some (-1 : Int)) (cond ((bits .and .u8 p0 (bits .or .u8 p1 p2)) == p2) (some (1 : Int)) (some
    (0 : Int))))

def m_input_Dir (F : Nat) (p0 : Int) : Option (Int × Int) :=
  (Option.bind (m_input_way F p0 (1 : Int) (2 : Int)) fun v5 => (Option.bind (m_input_way F p0 (4 : Int) (8 : Int)) fun v7 => some (v5, v7)))

def m_step_turn (F : Nat) (p0 : Int) (p1 : Int) (p2 : Int) : Option (Int) :=
  (cond (decide ((0 : Int) < p1)) (some (0 : Int)) (cond (decide (p1 < (0 : Int))) (some (1 : Int)) (cond (decide (p2 < (0 : Int))) (some (2 : Int))
    (cond (decide ((0 : Int) < p2)) (some (3 : Int)) (some p0)))))

def m_input_Dash (F : Nat) (p0 : Int) : Option (Bool) :=
  some ((bits .and .u8 p0 (32 : Int)) != (0 : Int))

def m_step_steer_1 (F : Nat) (p0 : Int) (p1 : Int) (p2 : Bool) : Option (Int) :=
  (Option.bind ((cond (p1 != (0 : Int)) (some (IntKind.wrap .i32 (p0 + (IntKind.wrap .i32 ((64 : Int) * p1))))) (Option.bind (cond (decide ((-8 : Int)
    < (IntKind.wrap .i32 (p0 - (IntKind.wrap .i32 (Int.tdiv p0 8)))))) (some ((decide ((IntKind.wrap .i32 (p0 - (IntKind.wrap .i32 (Int.tdiv p0 8))))
    < (8 : Int))))) (some (false))) fun v21 => (cond v21 (some (0 : Int)) (some (IntKind.wrap .i32 (p0 - (IntKind.wrap .i32 (Int.tdiv p0 8)))))))))
    fun za => (Option.bind ((cond p2 (some (IntKind.wrap .i32 (za * (2 : Int)))) (some za))) fun zb => some (max (-1024 : Int) (min zb
    (1024 : Int)))))

def m_step_steer (F : Nat) (p0 : T_api_Player) (p1 : Int) : Option (T_api_Player) :=
  (Option.bind (m_input_Dir F p1) fun (za, zb) => (Option.bind (m_step_turn F p0.Face za zb) fun v25 => (Option.bind (m_input_Dash F p1)
    fun v28 => (Option.bind (cond v28 (some (((IntKind.wrap .u8 (p0.Cool - (min p0.Cool (1 : Int)))) == (0 : Int)))) (some (false))) fun v33 =>
    (Option.bind (m_step_steer_1 F p0.VX za v33) fun v39 => (Option.bind (m_step_steer_1 F p0.VY zb v33) fun v44 => (Option.bind ((cond v33
    (some (T_api_Player.mk p0.X p0.Y v39 v44 p0.Health (30 : Int) v25)) (some (T_api_Player.mk p0.X p0.Y v39 v44 p0.Health (IntKind.wrap .u8 (p0.Cool
    - (min p0.Cool (1 : Int)))) v25)))) fun zc => some zc)))))))

def m_input_Fire (F : Nat) (p0 : Int) : Option (Bool) :=
  some ((bits .and .u8 p0 (16 : Int)) != (0 : Int))

def m_step_shoot (F : Nat) (p0 : T_api_Player) (p1 : Int) : Option (T_api_Shot) :=
  (Option.bind ((cond (p0.Face == (0 : Int)) (some (T_api_Shot.mk (IntKind.wrap .i32 (p0.X + (1792 : Int))) (IntKind.wrap .i32 (p0.Y + (1792 : Int)))
    (2048 : Int) (0 : Int) p1 (40 : Int))) (cond (p0.Face == (1 : Int)) (some (T_api_Shot.mk (IntKind.wrap .i32 (p0.X + (1792 : Int))) (IntKind.wrap
    .i32 (p0.Y + (1792 : Int))) (-2048 : Int) (0 : Int) p1 (40 : Int))) (cond (p0.Face == (2 : Int)) (some (T_api_Shot.mk (IntKind.wrap .i32 (p0.X +
    (1792 : Int))) (IntKind.wrap .i32 (p0.Y + (1792 : Int))) (0 : Int) (-2048 : Int) p1 (40 : Int))) (some (T_api_Shot.mk (IntKind.wrap .i32 (p0.X +
    (1792 : Int))) (IntKind.wrap .i32 (p0.Y + (1792 : Int))) (0 : Int) (2048 : Int) p1 (40 : Int))))))) fun za => some za)

def m_geom_Move (F : Nat) (p0 : Int) (p1 : Int) (p2 : Int) (p3 : Int) : Option (Int × Int) :=
  (Option.bind (cond (decide (p3 < p2)) (some (true)) (some ((decide ((IntKind.wrap .i64 ((IntKind.wrap .i64 p0) + (IntKind.wrap .i64 p1))) <
    (IntKind.wrap .i64 p2)))))) fun v24 => (cond v24 (some (p2, (0 : Int))) (cond (decide ((IntKind.wrap .i64 p3) < (IntKind.wrap .i64 ((IntKind.wrap
    .i64 p0) + (IntKind.wrap .i64 p1))))) (some (p3, (0 : Int))) (some ((IntKind.wrap .i32 (IntKind.wrap .i64 ((IntKind.wrap .i64 p0) + (IntKind.wrap
    .i64 p1)))), p1)))))

def m_step_moved (F : Nat) (p0 : T_api_Player) : Option (T_api_Player) :=
  (Option.bind (m_geom_Move F p0.X p0.VX (0 : Int) (61440 : Int)) fun (zc, zd) => (Option.bind (m_geom_Move F p0.Y p0.VY (0 : Int) (28672 : Int))
    fun (za, zb) => some (T_api_Player.mk zc za zd zb p0.Health p0.Cool p0.Face)))

def m_step_box (F : Nat) (p0 : T_api_Player) : Option (T_api_Box) :=
  some (T_api_Box.mk p0.X p0.Y (4096 : Int) (4096 : Int))

def m_geom_of (F : Nat) (p0 : Int) (p1 : Int) : Option (T_geom_row) :=
  some (T_geom_row.mk (IntKind.wrap .i64 p0) (IntKind.wrap .i64 ((IntKind.wrap .i64 p0) + (IntKind.wrap .i64 (max (0 : Int) p1)))))

def m_geom_rows (F : Nat) (p0 : T_api_Box) : Option (T_geom_row × T_geom_row) :=
  (Option.bind (m_geom_of F p0.X p0.W) fun v8 => (Option.bind (m_geom_of F p0.Y p0.H) fun v13 => some (v8, v13)))

def m_geom_row_over (F : Nat) (p0 : T_geom_row) (p1 : T_geom_row) : Option (Bool) :=
  some (decide ((max p0.from_ p1.from_) < (min p0.to_ p1.to_)))

def m_geom_both_f2_geom_row_over (F : Nat) (p0 : T_api_Box) (p1 : T_api_Box) : Option (Bool) :=
  (Option.bind (m_geom_rows F p0) fun (za, zb) => (Option.bind (m_geom_rows F p1) fun (zc, zd) => (Option.bind (m_geom_row_over F za
    zc) fun v24 => (Option.bind (cond v24 ((Option.bind (m_geom_row_over F zb zd) fun v29 => some (v29))) (some (false))) fun v30 => some
    v30))))

def m_geom_Over (F : Nat) (p0 : T_api_Box) (p1 : T_api_Box) : Option (Bool) :=
  (Option.bind (m_geom_both_f2_geom_row_over F p0 p1) fun v7 => some v7)

def m_step_stopped (F : Nat) (p0 : T_api_Player) : Option (T_api_Player) :=
  some (T_api_Player.mk p0.X p0.Y (0 : Int) (0 : Int) p0.Health p0.Cool p0.Face)

def m_geom_row_inside (F : Nat) (p0 : T_geom_row) (p1 : T_geom_row) : Option (Bool) :=
  (Option.bind (cond (decide (p0.from_ < p0.to_)) (some ((decide (p1.from_ ≤ p0.from_)))) (some (false))) fun v16 => (Option.bind (cond v16 (some
    ((decide (p0.to_ ≤ p1.to_)))) (some (false))) fun v23 => some v23))

def m_geom_both_f2_geom_row_inside (F : Nat) (p0 : T_api_Box) (p1 : T_api_Box) : Option (Bool) :=
  (Option.bind (m_geom_rows F p0) fun (za, zb) => (Option.bind (m_geom_rows F p1) fun (zc, zd) => (Option.bind (m_geom_row_inside F za
    zc) fun v24 => (Option.bind (cond v24 ((Option.bind (m_geom_row_inside F zb zd) fun v29 => some (v29))) (some (false))) fun v30 => some
    v30))))

def m_geom_Inside (F : Nat) (p0 : T_api_Box) (p1 : T_api_Box) : Option (Bool) :=
  (Option.bind (m_geom_both_f2_geom_row_inside F p0 p1) fun v7 => some v7)

def m_step_fly_L8 (F : Nat) (p0 : T_api_State) : Nat → (List T_api_Shot) → Int → (T_api_Player × T_api_Player) → (Int × Int) → Option ((List T_api_Shot) × (T_api_Player × T_api_Player) × (Int × Int))
  | 0, _, _, _, _ => none
  | n + 1, zd, zc, za, zb =>
      (cond (decide (zc < (p0.Shots.length : Int))) (Option.bind (getI p0.Shots zc) fun v16 => (cond ((IntKind.wrap .u8 ((1 : Int) - v16.Owner))
        == (0 : Int)) ((Option.bind (m_geom_Inside F (T_api_Box.mk (IntKind.wrap .i32 (v16.X + v16.VX)) (IntKind.wrap .i32 (v16.Y + v16.VY)) (512 :
        Int) (512 : Int)) (T_api_Box.mk (0 : Int) (0 : Int) (65536 : Int) (32768 : Int))) fun v49 => (cond (!v49) (m_step_fly_L8 F p0 n zd
        (IntKind.wrap .i64 (zc + (1 : Int))) za zb) (Option.bind (m_step_box F za.1) fun v56 => (Option.bind (m_geom_Over F
        (T_api_Box.mk (IntKind.wrap .i32 (v16.X + v16.VX)) (IntKind.wrap .i32 (v16.Y + v16.VY)) (512 : Int) (512 : Int)) v56) fun v57 => (cond v57
        (cond (v16.Owner == (0 : Int)) (m_step_fly_L8 F p0 n zd (IntKind.wrap .i64 (zc + (1 : Int))) ((T_api_Player.mk za.1.X za.1.Y
        za.1.VX za.1.VY (IntKind.wrap .u8 (za.1.Health - (min za.1.Health (10 : Int)))) za.1.Cool za.1.Face),
        za.2) ((IntKind.wrap .u16 ((min zb.1 (65534 : Int)) + (1 : Int))), zb.2)) (cond (v16.Owner == (1 : Int)) (m_step_fly_L8 F p0
        n zd (IntKind.wrap .i64 (zc + (1 : Int))) ((T_api_Player.mk za.1.X za.1.Y za.1.VX za.1.VY (IntKind.wrap .u8
        (za.1.Health - (min za.1.Health (10 : Int)))) za.1.Cool za.1.Face), za.2) (zb.1, (IntKind.wrap .u16 ((min
        zb.2 (65534 : Int)) + (1 : Int))))) none)) (cond (decide ((0 : Int) < (IntKind.wrap .u8 (v16.Life - (1 : Int))))) (Option.bind (appI
        zd ([(T_api_Shot.mk (IntKind.wrap .i32 (v16.X + v16.VX)) (IntKind.wrap .i32 (v16.Y + v16.VY)) v16.VX v16.VY v16.Owner (IntKind.wrap .u8
        (v16.Life - (1 : Int))))] : List T_api_Shot)) fun v92 => m_step_fly_L8 F p0 n v92 (IntKind.wrap .i64 (zc + (1 : Int))) za zb)
        (m_step_fly_L8 F p0 n zd (IntKind.wrap .i64 (zc + (1 : Int))) za zb)))))))) (cond ((IntKind.wrap .u8 ((1 : Int) - v16.Owner))
        == (1 : Int)) ((Option.bind (m_geom_Inside F (T_api_Box.mk (IntKind.wrap .i32 (v16.X + v16.VX)) (IntKind.wrap .i32 (v16.Y + v16.VY)) (512 :
        Int) (512 : Int)) (T_api_Box.mk (0 : Int) (0 : Int) (65536 : Int) (32768 : Int))) fun v49 => (cond (!v49) (m_step_fly_L8 F p0 n zd
        (IntKind.wrap .i64 (zc + (1 : Int))) za zb) (Option.bind (m_step_box F za.2) fun v56 => (Option.bind (m_geom_Over F
        (T_api_Box.mk (IntKind.wrap .i32 (v16.X + v16.VX)) (IntKind.wrap .i32 (v16.Y + v16.VY)) (512 : Int) (512 : Int)) v56) fun v57 => (cond v57
        (cond (v16.Owner == (0 : Int)) (m_step_fly_L8 F p0 n zd (IntKind.wrap .i64 (zc + (1 : Int))) (za.1, (T_api_Player.mk za.2.X
        za.2.Y za.2.VX za.2.VY (IntKind.wrap .u8 (za.2.Health - (min za.2.Health (10 : Int)))) za.2.Cool
        za.2.Face)) ((IntKind.wrap .u16 ((min zb.1 (65534 : Int)) + (1 : Int))), zb.2)) (cond (v16.Owner == (1 : Int))
        (m_step_fly_L8 F p0 n zd (IntKind.wrap .i64 (zc + (1 : Int))) (za.1, (T_api_Player.mk za.2.X za.2.Y za.2.VX
        za.2.VY (IntKind.wrap .u8 (za.2.Health - (min za.2.Health (10 : Int)))) za.2.Cool za.2.Face)) (zb.1,
        (IntKind.wrap .u16 ((min zb.2 (65534 : Int)) + (1 : Int))))) none)) (cond (decide ((0 : Int) < (IntKind.wrap .u8 (v16.Life - (1 :
        Int))))) (Option.bind (appI zd ([(T_api_Shot.mk (IntKind.wrap .i32 (v16.X + v16.VX)) (IntKind.wrap .i32 (v16.Y + v16.VY)) v16.VX v16.VY
        v16.Owner (IntKind.wrap .u8 (v16.Life - (1 : Int))))] : List T_api_Shot)) fun v92 => m_step_fly_L8 F p0 n v92 (IntKind.wrap .i64 (zc + (1 :
        Int))) za zb) (m_step_fly_L8 F p0 n zd (IntKind.wrap .i64 (zc + (1 : Int))) za zb)))))))) none))) (some (zd,
        za, zb)))

def m_step_fly (F : Nat) (p0 : T_api_State) : Option (T_api_State) :=
  (Option.bind (m_step_fly_L8 F p0 F ([] : List T_api_Shot) (0 : Int) p0.Players p0.Score) fun (zc, za, zb) => some (T_api_State.mk
    p0.Frame p0.Seed za zc zb))

def m_rng_Source_Skip (F : Nat) (p0 : T_rng_Source) (p1 : Int) : Option (T_rng_Source) :=
  some (T_rng_Source.mk (IntKind.wrap .u64 (p0.S + (IntKind.wrap .u64 (p1 * (11400714819323198485 : Int))))))

def m_rng_Mix (F : Nat) (p0 : Int) : Option (Int) :=
  some (bits .xor .u64 (IntKind.wrap .u64 ((bits .xor .u64 (IntKind.wrap .u64 ((bits .xor .u64 p0 (p0 / 2 ^ (min 30 (IntKind.bits .u64)))) *
    (13787848793156543929 : Int))) ((IntKind.wrap .u64 ((bits .xor .u64 p0 (p0 / 2 ^ (min 30 (IntKind.bits .u64)))) * (13787848793156543929 : Int))) /
    2 ^ (min 27 (IntKind.bits .u64)))) * (10723151780598845931 : Int))) ((IntKind.wrap .u64 ((bits .xor .u64 (IntKind.wrap .u64 ((bits .xor .u64 p0
    (p0 / 2 ^ (min 30 (IntKind.bits .u64)))) * (13787848793156543929 : Int))) ((IntKind.wrap .u64 ((bits .xor .u64 p0 (p0 / 2 ^ (min 30 (IntKind.bits
    .u64)))) * (13787848793156543929 : Int))) / 2 ^ (min 27 (IntKind.bits .u64)))) * (10723151780598845931 : Int))) / 2 ^ (min 31 (IntKind.bits
    .u64))))

def m_rng_Source_Next (F : Nat) (p0 : T_rng_Source) : Option (Int × T_rng_Source) :=
  (Option.bind (m_rng_Source_Skip F p0 (1 : Int)) fun v5 => (Option.bind (m_rng_Mix F v5.S) fun v8 => some (v8, v5)))

def m_rng_Source_Below (F : Nat) (p0 : T_rng_Source) (p1 : Int) : Option (Int × T_rng_Source) :=
  (cond (decide (p1 < (1 : Int))) (some ((0 : Int), p0)) (Option.bind (m_rng_Source_Next F p0) fun (za, zb) => some ((IntKind.wrap .i64
    ((IntKind.wrap .u64 ((za / 2 ^ (min 32 (IntKind.bits .u64))) * (IntKind.wrap .u64 (min p1 (2147483648 : Int))))) / 2 ^ (min 32 (IntKind.bits
    .u64)))), zb)))

def m_step_revive (F : Nat) (p0 : T_api_State) (p1 : Int) : Option (T_api_State) :=
  (cond (p1 == (0 : Int)) ((Option.bind (m_step_stopped F p0.Players.1) fun v15 => (Option.bind (m_rng_Source_Below F (T_rng_Source.mk p0.Seed) (61441
    : Int)) fun (zb, ze) => (Option.bind (m_rng_Source_Below F ze (28673 : Int)) fun (zc, zd) => (Option.bind (m_step_box F
    (T_api_Player.mk (IntKind.wrap .i32 zb) (IntKind.wrap .i32 zc) v15.VX v15.VY (100 : Int) v15.Cool v15.Face)) fun v45 => (cond ((IntKind.wrap
    .i64 ((1 : Int) - p1)) == (0 : Int)) ((Option.bind (m_step_box F p0.Players.1) fun v53 => (Option.bind (m_geom_Over F v45 v53) fun v54 =>
    (Option.bind ((cond (!v54) (some (T_api_Player.mk (IntKind.wrap .i32 zb) (IntKind.wrap .i32 zc) v15.VX v15.VY (100 : Int) v15.Cool
    v15.Face)) (some (T_api_Player.mk v15.X v15.Y v15.VX v15.VY (100 : Int) v15.Cool v15.Face)))) fun za => some (T_api_State.mk p0.Frame zd.S
    (za, p0.Players.2) p0.Shots p0.Score))))) (cond ((IntKind.wrap .i64 ((1 : Int) - p1)) == (1 : Int)) ((Option.bind (m_step_box F p0.Players.2)
    fun v53 => (Option.bind (m_geom_Over F v45 v53) fun v54 => (Option.bind ((cond (!v54) (some (T_api_Player.mk (IntKind.wrap .i32 zb)
    (IntKind.wrap .i32 zc) v15.VX v15.VY (100 : Int) v15.Cool v15.Face)) (some (T_api_Player.mk v15.X v15.Y v15.VX v15.VY (100 : Int) v15.Cool
    v15.Face)))) fun za => some (T_api_State.mk p0.Frame zd.S (za, p0.Players.2) p0.Shots p0.Score))))) none))))))) (cond (p1 == (1 : Int))
    ((Option.bind (m_step_stopped F p0.Players.2) fun v15 => (Option.bind (m_rng_Source_Below F (T_rng_Source.mk p0.Seed) (61441 : Int)) fun (zb,
    ze) => (Option.bind (m_rng_Source_Below F ze (28673 : Int)) fun (zc, zd) => (Option.bind (m_step_box F (T_api_Player.mk (IntKind.wrap
    .i32 zb) (IntKind.wrap .i32 zc) v15.VX v15.VY (100 : Int) v15.Cool v15.Face)) fun v45 => (cond ((IntKind.wrap .i64 ((1 : Int) - p1)) == (0 :
    Int)) ((Option.bind (m_step_box F p0.Players.1) fun v53 => (Option.bind (m_geom_Over F v45 v53) fun v54 => (Option.bind ((cond (!v54) (some
    (T_api_Player.mk (IntKind.wrap .i32 zb) (IntKind.wrap .i32 zc) v15.VX v15.VY (100 : Int) v15.Cool v15.Face)) (some (T_api_Player.mk v15.X
    v15.Y v15.VX v15.VY (100 : Int) v15.Cool v15.Face)))) fun za => some (T_api_State.mk p0.Frame zd.S (p0.Players.1, za) p0.Shots
    p0.Score))))) (cond ((IntKind.wrap .i64 ((1 : Int) - p1)) == (1 : Int)) ((Option.bind (m_step_box F p0.Players.2) fun v53 => (Option.bind
    (m_geom_Over F v45 v53) fun v54 => (Option.bind ((cond (!v54) (some (T_api_Player.mk (IntKind.wrap .i32 zb) (IntKind.wrap .i32 zc) v15.VX
    v15.VY (100 : Int) v15.Cool v15.Face)) (some (T_api_Player.mk v15.X v15.Y v15.VX v15.VY (100 : Int) v15.Cool v15.Face)))) fun za => some
    (T_api_State.mk p0.Frame zd.S (p0.Players.1, za) p0.Shots p0.Score))))) none))))))) none))

def m_step_Step_L16 (F : Nat) (p1 : (Int × Int)) : Nat → Int → (T_api_Player × T_api_Player) → Option ((T_api_Player × T_api_Player))
  | 0, _, _ => none
  | n + 1, zb, za =>
      (cond (decide (zb < (2 : Int))) (cond (zb == (0 : Int)) ((Option.bind (m_step_steer F za.1 p1.1) fun v40 => m_step_Step_L16 F p1
        n (IntKind.wrap .i64 (zb + (1 : Int))) (v40, za.2))) (cond (zb == (1 : Int)) ((Option.bind (m_step_steer F za.2 p1.2)
        fun v40 => m_step_Step_L16 F p1 n (IntKind.wrap .i64 (zb + (1 : Int))) (za.1, v40))) none)) (some za))

def m_step_Step_L33 (F : Nat) (p1 : (Int × Int)) : Nat → Int → (T_api_Player × T_api_Player) → (List T_api_Shot) → Option ((T_api_Player × T_api_Player) × (List T_api_Shot))
  | 0, _, _, _ => none
  | n + 1, zc, za, zb =>
      (cond (decide (zc < (2 : Int))) (cond (zc == (0 : Int)) ((Option.bind (m_input_Fire F p1.1) fun v53 => (Option.bind (cond v53 (some
        ((za.1.Cool == (0 : Int)))) (some (false))) fun v60 => (Option.bind (cond v60 (some ((decide ((zb.length : Int) < (8 : Int)))))
        (some (false))) fun v66 => (cond v66 (Option.bind (m_step_shoot F za.1 (IntKind.wrap .u8 zc)) fun v74 => (Option.bind (appI
        zb ([v74] : List T_api_Shot)) fun v76 => m_step_Step_L33 F p1 n (IntKind.wrap .i64 (zc + (1 : Int))) ((T_api_Player.mk
        za.1.X za.1.Y za.1.VX za.1.VY za.1.Health (10 : Int) za.1.Face), za.2) v76)) (m_step_Step_L33
        F p1 n (IntKind.wrap .i64 (zc + (1 : Int))) za zb)))))) (cond (zc == (1 : Int)) ((Option.bind (m_input_Fire F p1.2) fun
        v53 => (Option.bind (cond v53 (some ((za.2.Cool == (0 : Int)))) (some (false))) fun v60 => (Option.bind (cond v60 (some ((decide
        ((zb.length : Int) < (8 : Int))))) (some (false))) fun v66 => (cond v66 (Option.bind (m_step_shoot F za.2 (IntKind.wrap .u8
        zc)) fun v74 => (Option.bind (appI zb ([v74] : List T_api_Shot)) fun v76 => m_step_Step_L33 F p1 n (IntKind.wrap .i64 (zc + (1
        : Int))) (za.1, (T_api_Player.mk za.2.X za.2.Y za.2.VX za.2.VY za.2.Health (10 : Int)
        za.2.Face)) v76)) (m_step_Step_L33 F p1 n (IntKind.wrap .i64 (zc + (1 : Int))) za zb)))))) none)) (some (za,
        zb)))

def m_step_Step_L70 (F : Nat) : Nat → Int → Int → Int → (T_api_Player × T_api_Player) → (List T_api_Shot) → (Int × Int) → Option (Int × Int × (T_api_Player × T_api_Player) × (List T_api_Shot) × (Int × Int))
  | 0, _, _, _, _, _, _ => none
  | n + 1, zc, zd, ze, za, zf, zg =>
      (cond (decide (zc < (2 : Int))) (cond (zc == (0 : Int)) ((cond (za.1.Health == (0 : Int)) (Option.bind (m_step_revive F
        (T_api_State.mk zd ze za zf zg) zc) fun zb => m_step_Step_L70 F n (IntKind.wrap .i64 (zc + (1
        : Int))) zb.Frame zb.Seed zb.Players zb.Shots zb.Score) (m_step_Step_L70 F n (IntKind.wrap .i64 (zc + (1 : Int)))
        zd ze za zf zg))) (cond (zc == (1 : Int)) ((cond (za.2.Health == (0 : Int)) (Option.bind
        (m_step_revive F (T_api_State.mk zd ze za zf zg) zc) fun zb => m_step_Step_L70 F n (IntKind.wrap
        .i64 (zc + (1 : Int))) zb.Frame zb.Seed zb.Players zb.Shots zb.Score) (m_step_Step_L70 F n (IntKind.wrap .i64
        (zc + (1 : Int))) zd ze za zf zg))) none)) (some (zd, ze, za, zf,
        zg)))

def m_step_Step (F : Nat) (p0 : T_api_State) (p1 : (Int × Int)) : Option (T_api_State) :=
  (Option.bind (m_state_Copy F p0) fun v12 => (Option.bind (m_state_Check F v12) fun v14 => (Option.bind (cond (v14 != (0 : Int)) (some (true))
    ((Option.bind (m_input_Legal F p1.1) fun v19 => some ((!v19))))) fun v21 => (Option.bind (cond v21 (some (true)) ((Option.bind (m_input_Legal F
    p1.2) fun v25 => some ((!v25))))) fun v27 => (cond v27 (some v12) (Option.bind (m_step_Step_L16 F p1 F (0 : Int) v12.Players) fun zc =>
    (Option.bind (m_step_Step_L33 F p1 F (0 : Int) zc v12.Shots) fun (za, zd) => (Option.bind (m_step_moved F za.1) fun
    v85 => (Option.bind (m_step_moved F za.2) fun v89 => (Option.bind (m_step_box F v85) fun v91 => (Option.bind (m_step_box F v89) fun v93 =>
    (Option.bind (m_geom_Over F v91 v93) fun v94 => (Option.bind ((cond v94 (Option.bind (m_step_stopped F za.1) fun v98 => (Option.bind
    (m_step_stopped F za.2) fun v102 => some (v98, v102))) (some (v85, v89)))) fun (zj, zk) => (Option.bind (m_step_fly F
    (T_api_State.mk v12.Frame v12.Seed (zj, zk) zd v12.Score)) fun zb => (Option.bind (m_step_Step_L70 F F (0 : Int) zb.Frame
    zb.Seed zb.Players zb.Shots zb.Score) fun (ze, zf, zg, zh, zi) => some (T_api_State.mk
    (IntKind.wrap .u64 (ze + (1 : Int))) zf zg zh zi))))))))))))))))

def m_codec_put_uint64_L9 (F : Nat) (p1 : Int) (p2 : Int) : Nat → Int → (List Int) → Option ((List Int))
  | 0, _, _ => none
  | n + 1, zb, za =>
      (cond (decide (zb < p2)) (Option.bind (shrI .u64 p1 (IntKind.wrap .i64 ((8 : Int) * zb))) fun v21 => (Option.bind (appI za
        ([(IntKind.wrap .u8 v21)] : List Int)) fun v24 => m_codec_put_uint64_L9 F p1 p2 n (IntKind.wrap .i64 (zb + (1 : Int))) v24)) (some
        za))

def m_codec_put_uint64 (F : Nat) (p0 : T_codec_Writer) (p1 : Int) (p2 : Int) : Option (T_codec_Writer) :=
  (Option.bind (m_codec_put_uint64_L9 F p1 p2 F (0 : Int) p0.b) fun za => some (T_codec_Writer.mk za))

def m_codec_Writer_U64 (F : Nat) (p0 : T_codec_Writer) (p1 : Int) : Option (T_codec_Writer) :=
  (Option.bind (m_codec_put_uint64 F p0 p1 (8 : Int)) fun za => some za)

def m_codec_put_uint32_L9 (F : Nat) (p1 : Int) (p2 : Int) : Nat → Int → (List Int) → Option ((List Int))
  | 0, _, _ => none
  | n + 1, zb, za =>
      (cond (decide (zb < p2)) (Option.bind (shrI .u64 (IntKind.wrap .u64 p1) (IntKind.wrap .i64 ((8 : Int) * zb))) fun v22 => (Option.bind
        (appI za ([(IntKind.wrap .u8 v22)] : List Int)) fun v25 => m_codec_put_uint32_L9 F p1 p2 n (IntKind.wrap .i64 (zb + (1 : Int)))
        v25)) (some za))

def m_codec_put_uint32 (F : Nat) (p0 : T_codec_Writer) (p1 : Int) (p2 : Int) : Option (T_codec_Writer) :=
  (Option.bind (m_codec_put_uint32_L9 F p1 p2 F (0 : Int) p0.b) fun za => some (T_codec_Writer.mk za))

def m_codec_Writer_I32 (F : Nat) (p0 : T_codec_Writer) (p1 : Int) : Option (T_codec_Writer) :=
  (Option.bind (m_codec_put_uint32 F p0 (IntKind.wrap .u32 p1) (4 : Int)) fun za => some za)

def m_codec_put_uint8_L9 (F : Nat) (p1 : Int) (p2 : Int) : Nat → Int → (List Int) → Option ((List Int))
  | 0, _, _ => none
  | n + 1, zb, za =>
      (cond (decide (zb < p2)) (Option.bind (shrI .u64 (IntKind.wrap .u64 p1) (IntKind.wrap .i64 ((8 : Int) * zb))) fun v22 => (Option.bind
        (appI za ([(IntKind.wrap .u8 v22)] : List Int)) fun v25 => m_codec_put_uint8_L9 F p1 p2 n (IntKind.wrap .i64 (zb + (1 : Int)))
        v25)) (some za))

def m_codec_put_uint8 (F : Nat) (p0 : T_codec_Writer) (p1 : Int) (p2 : Int) : Option (T_codec_Writer) :=
  (Option.bind (m_codec_put_uint8_L9 F p1 p2 F (0 : Int) p0.b) fun za => some (T_codec_Writer.mk za))

def m_codec_Writer_U8 (F : Nat) (p0 : T_codec_Writer) (p1 : Int) : Option (T_codec_Writer) :=
  (Option.bind (m_codec_put_uint8 F p0 p1 (1 : Int)) fun za => some za)

def m_state_put_L3 (F : Nat) (p1 : (List Int)) : Nat → Int → (List Int) → Option ((List Int))
  | 0, _, _ => none
  | n + 1, zb, za =>
      (cond (decide (zb < (p1.length : Int))) (Option.bind (getI p1 zb) fun v11 => (cond (decide (zb < (4 : Int))) (Option.bind
        (m_codec_Writer_I32 F (T_codec_Writer.mk za) v11) fun zc => m_state_put_L3 F p1 n (IntKind.wrap .i64 (zb + (1 : Int))) zc.b)
        (Option.bind (m_codec_Writer_U8 F (T_codec_Writer.mk za) (IntKind.wrap .u8 v11)) fun zd => m_state_put_L3 F p1 n (IntKind.wrap .i64
        (zb + (1 : Int))) zd.b))) (some za))

def m_state_put (F : Nat) (p0 : T_codec_Writer) (p1 : (List Int)) : Option (T_codec_Writer) :=
  (Option.bind (m_state_put_L3 F p1 F (0 : Int) p0.b) fun za => some (T_codec_Writer.mk za))

def m_codec_Writer_Var_L2 (F : Nat) : Nat → Int → (List Int) → Option (Int × (List Int))
  | 0, _, _ => none
  | n + 1, zb, za =>
      (cond (decide ((127 : Int) < zb)) (Option.bind (m_codec_Writer_U8 F (T_codec_Writer.mk za) (bits .or .u8 (IntKind.wrap .u8 zb) (128 :
        Int))) fun zc => m_codec_Writer_Var_L2 F n (zb / 2 ^ (min 7 (IntKind.bits .u64))) zc.b) (some (zb, za)))

def m_codec_Writer_Var (F : Nat) (p0 : T_codec_Writer) (p1 : Int) : Option (T_codec_Writer) :=
  (Option.bind (m_codec_Writer_Var_L2 F F p1 p0.b) fun (zc, za) => (Option.bind (m_codec_Writer_U8 F (T_codec_Writer.mk za)
    (IntKind.wrap .u8 zc)) fun zb => some zb))

def m_codec_put_uint16_L9 (F : Nat) (p1 : Int) (p2 : Int) : Nat → Int → (List Int) → Option ((List Int))
  | 0, _, _ => none
  | n + 1, zb, za =>
      (cond (decide (zb < p2)) (Option.bind (shrI .u64 (IntKind.wrap .u64 p1) (IntKind.wrap .i64 ((8 : Int) * zb))) fun v22 => (Option.bind
        (appI za ([(IntKind.wrap .u8 v22)] : List Int)) fun v25 => m_codec_put_uint16_L9 F p1 p2 n (IntKind.wrap .i64 (zb + (1 : Int)))
        v25)) (some za))

def m_codec_put_uint16 (F : Nat) (p0 : T_codec_Writer) (p1 : Int) (p2 : Int) : Option (T_codec_Writer) :=
  (Option.bind (m_codec_put_uint16_L9 F p1 p2 F (0 : Int) p0.b) fun za => some (T_codec_Writer.mk za))

def m_codec_Writer_U16 (F : Nat) (p0 : T_codec_Writer) (p1 : Int) : Option (T_codec_Writer) :=
  (Option.bind (m_codec_put_uint16 F p0 p1 (2 : Int)) fun za => some za)

def m_codec_Writer_Bytes (F : Nat) (p0 : T_codec_Writer) : Option ((List UInt8)) :=
  some (toB p0.b)

def m_state_Put_L20 (F : Nat) (p0 : T_api_State) : Nat → Int → (List Int) → Option ((List Int))
  | 0, _, _ => none
  | n + 1, za, zb =>
      (cond (decide (za < (2 : Int))) (cond (za == (0 : Int)) ((Option.bind (m_state_ofPlayer F p0.Players.1) fun v25 => (Option.bind
        (m_state_put F (T_codec_Writer.mk zb) v25) fun zc => m_state_Put_L20 F p0 n (IntKind.wrap .i64 (za + (1 : Int))) zc.b)))
        (cond (za == (1 : Int)) ((Option.bind (m_state_ofPlayer F p0.Players.2) fun v25 => (Option.bind (m_state_put F (T_codec_Writer.mk
        zb) v25) fun zc => m_state_Put_L20 F p0 n (IntKind.wrap .i64 (za + (1 : Int))) zc.b))) none)) (some zb))

def m_state_Put_L39 (F : Nat) (p0 : T_api_State) : Nat → Int → (List Int) → Option ((List Int))
  | 0, _, _ => none
  | n + 1, zb, za =>
      (cond (decide (zb < (p0.Shots.length : Int))) (Option.bind (getI p0.Shots zb) fun v38 => (Option.bind (m_state_ofShot F v38) fun v41 =>
        (Option.bind (m_state_put F (T_codec_Writer.mk za) v41) fun zc => m_state_Put_L39 F p0 n (IntKind.wrap .i64 (zb + (1 : Int)))
        zc.b))) (some za))

def m_state_Put_L56 (F : Nat) (p0 : T_api_State) : Nat → Int → (List Int) → Option ((List Int))
  | 0, _, _ => none
  | n + 1, za, zb =>
      (cond (decide (za < (2 : Int))) (cond (za == (0 : Int)) ((Option.bind (m_codec_Writer_U16 F (T_codec_Writer.mk zb) p0.Score.1)
        fun zc => m_state_Put_L56 F p0 n (IntKind.wrap .i64 (za + (1 : Int))) zc.b)) (cond (za == (1 : Int)) ((Option.bind
        (m_codec_Writer_U16 F (T_codec_Writer.mk zb) p0.Score.2) fun zc => m_state_Put_L56 F p0 n (IntKind.wrap .i64 (za + (1 : Int)))
        zc.b)) none)) (some zb))

def m_state_Put (F : Nat) (p0 : T_api_State) : Option ((List UInt8)) :=
  (Option.bind (m_state_Check F p0) fun v11 => (cond (v11 != (0 : Int)) (some ([] : List UInt8)) (Option.bind (m_codec_Writer_U64 F (T_codec_Writer.mk
    ([] : List Int)) p0.Frame) fun zd => (Option.bind (m_codec_Writer_U64 F zd p0.Seed) fun ze => (Option.bind (m_state_Put_L20 F p0 F (0 :
    Int) ze.b) fun za => (Option.bind (m_codec_Writer_Var F (T_codec_Writer.mk za) (IntKind.wrap .u64 (p0.Shots.length : Int))) fun
    zf => (Option.bind (m_state_Put_L39 F p0 F (0 : Int) zf.b) fun zb => (Option.bind (m_state_Put_L56 F p0 F (0 : Int) zb) fun
    zc => (Option.bind (m_codec_Writer_Bytes F (T_codec_Writer.mk zc)) fun v52 => some v52)))))))))

def m_digest_Join_L6 (F : Nat) (p1 : (List UInt8)) : Nat → Int → Int → Option (Int)
  | 0, _, _ => none
  | n + 1, zb, za =>
      (cond (decide (za < (p1.length : Int))) (Option.bind (getI p1 za) fun v14 => m_digest_Join_L6 F p1 n (IntKind.wrap .u64 ((bits .xor .u64
        zb (IntKind.wrap .u64 (v14.toNat : Int))) * (1099511628211 : Int))) (IntKind.wrap .i64 (za + (1 : Int)))) (some zb))

def m_digest_Join (F : Nat) (p0 : Int) (p1 : (List UInt8)) : Option (Int) :=
  (Option.bind (m_digest_Join_L6 F p1 F p0 (0 : Int)) fun za => some za)

def m_digest_Of (F : Nat) (p0 : T_api_State) : Option (Int) :=
  (Option.bind (m_state_Put F p0) fun v4 => (Option.bind (m_digest_Join F (14695981039346656037 : Int) v4) fun v5 => some v5))

def m_watch_Watch_State (F : Nat) (p0 : T_watch_Watch) (p1 : T_api_State) : Option (T_watch_Watch × Int) :=
  (Option.bind (m_watch_Watch_is F p0) fun v7 => (cond (!v7) (some (p0, (1 : Int))) (Option.bind (remI p1.Frame p0.rows) fun v16 => (cond (v16 != (0 :
    Int)) (some (p0, (0 : Int))) (Option.bind (m_digest_Of F p1) fun v22 => (Option.bind (m_watch_Watch_Own F p0 p1.Frame v22) fun (za, v23) =>
    some (za, v23)))))))

def m_watch_Watch_Latest_L14 (F : Nat) (p0 : T_watch_Watch) : Nat → Int → Int → Bool → Int → Option (Int × Int × Bool)
  | 0, _, _, _, _ => none
  | n + 1, zb, zc, zd, za =>
      (cond (decide (za < (p0.l.length : Int))) (Option.bind (getI p0.l za) fun v17 => (cond v17.own.is_ (m_watch_Watch_Latest_L14 F p0 n
        v17.f v17.own.n true (IntKind.wrap .i64 (za + (1 : Int)))) (m_watch_Watch_Latest_L14 F p0 n zb zc zd (IntKind.wrap .i64 (za +
        (1 : Int)))))) (some (zb, zc, zd)))

def m_watch_Watch_Latest (F : Nat) (p0 : T_watch_Watch) : Option (Int × Int × Bool) :=
  (Option.bind (m_watch_Watch_is F p0) fun v8 => (cond (!v8) (some ((0 : Int), (0 : Int), false)) (Option.bind (m_watch_Watch_Latest_L14 F p0 F (0 :
    Int) (0 : Int) false (0 : Int)) fun (za, zb, zc) => some (za, zb, zc))))

def m_hindcastlaw29_WatchSame_L28 (F : Nat) (p1 : (List (Int × Int))) : Nat → (List T_api_State) → Int → Option ((List T_api_State))
  | 0, _, _ => none
  | n + 1, za, zb =>
      (cond (decide (zb < (p1.length : Int))) (Option.bind (getI za (IntKind.wrap .i64 ((za.length : Int) - (1 : Int)))) fun v56 =>
        (Option.bind (getI p1 zb) fun v60 => (Option.bind (m_step_Step F v56 v60) fun v62 => (Option.bind (appI za ([v62] : List T_api_State))
        fun v66 => m_hindcastlaw29_WatchSame_L28 F p1 n v66 (IntKind.wrap .i64 (zb + (1 : Int))))))) (some za))

def m_hindcastlaw29_WatchSame_L45 (F : Nat) (p2 : (List T_hindcastlaw29_Order)) (zr : (List T_api_State)) : Nat → Int → Int → (List T_watch_entry) → Bool → Int → (List T_watch_entry) → Bool → Option ((Bool × Int × (List T_watch_entry) × Bool × Int × (List T_watch_entry) × Bool) ⊕ (Bool))
  | 0, _, _, _, _, _, _, _ => none
  | n + 1, zi, zc, zd, ze, zf, zg, zh =>
      (cond (decide (zi < (p2.length : Int))) (Option.bind (getI p2 zi) fun v75 => (cond ((IntKind.wrap .i64 (Int.tmod v75.Side 2)) == (0 :
        Int)) ((Option.bind (getI p2 zi) fun v86 => (Option.bind (remI (IntKind.wrap .i64 v86.At) (zr.length : Int)) fun v92 => (Option.bind
        (getI zr v92) fun v93 => (Option.bind (m_watch_Watch_State F (T_watch_Watch.mk zc zd ze) v93) fun (zb,
        v95) => (cond (v95 != (0 : Int)) (some (.inr false)) (Option.bind (m_watch_Watch_Latest F zb) fun (zp, zq, zs) => (Option.bind
        (cond zs ((Option.bind (getI p2 zi) fun v109 => some ((!v109.Lost)))) (some (false))) fun v113 => (Option.bind (cond v113 ((cond
        ((IntKind.wrap .i64 ((1 : Int) - (IntKind.wrap .i64 (Int.tmod v75.Side 2)))) == (0 : Int)) ((Option.bind (m_watch_Watch_Other F zb zp
        zq) fun (za, v121) => some ((v121 != (0 : Int)), za.rows, za.l, za.clashed, zf, zg, zh)))
        (cond ((IntKind.wrap .i64 ((1 : Int) - (IntKind.wrap .i64 (Int.tmod v75.Side 2)))) == (1 : Int)) ((Option.bind (m_watch_Watch_Other F
        (T_watch_Watch.mk zf zg zh) zp zq) fun (za, v121) => some ((v121 != (0 : Int)), zb.rows, zb.l,
        zb.clashed, za.rows, za.l, za.clashed))) none))) (some (false, zb.rows, zb.l, zb.clashed, zf, zg,
        zh))) fun (v123, zj, zk, zl, zm, zn, zo) => (cond v123 (some (.inr
        false)) (m_hindcastlaw29_WatchSame_L45 F p2 zr n (IntKind.wrap .i64 (zi + (1 : Int))) zj zk zl
        zm zn zo))))))))))) (cond ((IntKind.wrap .i64 (Int.tmod v75.Side 2)) == (1 : Int)) ((Option.bind (getI p2
        zi) fun v86 => (Option.bind (remI (IntKind.wrap .i64 v86.At) (zr.length : Int)) fun v92 => (Option.bind (getI zr v92) fun v93 =>
        (Option.bind (m_watch_Watch_State F (T_watch_Watch.mk zf zg zh) v93) fun (zb, v95) => (cond (v95 != (0 :
        Int)) (some (.inr false)) (Option.bind (m_watch_Watch_Latest F zb) fun (zp, zq, zs) => (Option.bind (cond zs ((Option.bind
        (getI p2 zi) fun v109 => some ((!v109.Lost)))) (some (false))) fun v113 => (Option.bind (cond v113 ((cond ((IntKind.wrap .i64 ((1 : Int) -
        (IntKind.wrap .i64 (Int.tmod v75.Side 2)))) == (0 : Int)) ((Option.bind (m_watch_Watch_Other F (T_watch_Watch.mk zc zd
        ze) zp zq) fun (za, v121) => some ((v121 != (0 : Int)), za.rows, za.l, za.clashed, zb.rows, zb.l,
        zb.clashed))) (cond ((IntKind.wrap .i64 ((1 : Int) - (IntKind.wrap .i64 (Int.tmod v75.Side 2)))) == (1 : Int)) ((Option.bind
        (m_watch_Watch_Other F zb zp zq) fun (za, v121) => some ((v121 != (0 : Int)), zc, zd, ze,
        za.rows, za.l, za.clashed))) none))) (some (false, zc, zd, ze, zb.rows, zb.l, zb.clashed)))
        fun (v123, zj, zk, zl, zm, zn, zo) => (cond v123 (some (.inr false))
        (m_hindcastlaw29_WatchSame_L45 F p2 zr n (IntKind.wrap .i64 (zi + (1 : Int))) zj zk zl zm
        zn zo))))))))))) none))) (some (.inl (false, zc, zd, ze, zf, zg,
        zh))))

def m_hindcastlaw29_WatchSame (F : Nat) (p0 : Int) (p1 : (List (Int × Int))) (p2 : (List T_hindcastlaw29_Order)) : Option (Bool) :=
  (Option.bind (cond (decide ((60 : Int) < (p1.length : Int))) (some (true)) (some ((decide ((150 : Int) < (p2.length : Int)))))) fun v24 => (cond v24
    (Option.bind (m_hindcastlaw29_awake F) fun v25 => some v25) (Option.bind (m_watch_New F (IntKind.wrap .i64 ((1 : Int) + (IntKind.wrap .i64
    (Int.tmod p0 16))))) fun v31 => poE ((Option.bind (m_watch_New F (IntKind.wrap .i64 ((1 : Int) + (IntKind.wrap .i64 (Int.tmod p0 16))))) fun v33
    => poE (some false) (fun v33s => some false) v33)) (fun v31s => (Option.bind (m_watch_New F (IntKind.wrap .i64 ((1 : Int) + (IntKind.wrap .i64
    (Int.tmod p0 16))))) fun v33 => poE (some false) (fun v33s => (Option.bind (m_state_Start F p0) fun v44 => (Option.bind
    (m_hindcastlaw29_WatchSame_L28 F p1 F ([v44] : List T_api_State) (0 : Int)) fun zg => (Option.bind (m_hindcastlaw29_WatchSame_L45 F p2 zg F
    (0 : Int) v31s.rows v31s.l v31s.clashed v33s.rows v33s.l v33s.clashed) (orE (fun (zh, za, zb, zc, zd,
    ze, zf) => (Option.bind (m_watch_Watch_Clashed F (T_watch_Watch.mk za zb zc)) fun v126 =>
    (Option.bind (cond (!v126) ((Option.bind (m_watch_Watch_Clashed F (T_watch_Watch.mk zd ze zf)) fun v131 => some
    ((!v131)))) (some (false))) fun v133 => (Option.bind (cond v133 ((Option.bind (m_hindcastlaw29_awake F) fun v135 => some (v135))) (some (false)))
    fun v136 => some v136)))) (fun r46 => some r46)))))) v33)) v31)))

end Go.Proofs.YthlnellnlhkphaaDoor
