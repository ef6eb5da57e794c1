/- Texts put together. -/
import Derived.Test.YtnldbfeakocbnaaGreatTb
import Derived.Test.YtnldbfeakocbnaaGreatXO
/- Plain functions of spans (what the first way of walking printed). -/
namespace Go.Y
open Go.RowKit Go.V Go.X Go.Proofs
abbrev TSpan := Go.X.Span
instance : Inhabited TSpan := ⟨⟨0, 0⟩⟩
structure Twork where
  a : TSpan
  b : TSpan
  narrow : Bool
  most : Int
  size : Int
def span_Of (a0 : Int)  : TSpan := (⟨a0, a0⟩ : TSpan)
def span_All (a0 : Bool)  : TSpan := (if a0 then (⟨(0 : Int), (4294967295 : Int)⟩ : TSpan) else (⟨(0 : Int), (18446744073709551615 : Int)⟩ : TSpan))
def span_Right (a0 : TSpan)  : Bool := decide (a0.Lo ≤ a0.Hi)
def span_Has (a0 : TSpan) (a1 : Int)  : Bool := ((decide (a0.Lo ≤ a1)) && (decide (a1 ≤ a0.Hi)))
def span_Within (a0 : TSpan) (a1 : TSpan)  : Bool := ((decide (a1.Lo ≤ a0.Lo)) && (decide (a0.Hi ≤ a1.Hi)))
def span_Join (a0 : TSpan) (a1 : TSpan)  : TSpan := (⟨(gMin a0.Lo a1.Lo), (gMax a0.Hi a1.Hi)⟩ : TSpan)
def span_Meet (a0 : TSpan) (a1 : TSpan)  : (TSpan × Bool) := (letF (span_Right (⟨(gMax a0.Lo a1.Lo), (gMin a0.Hi a1.Hi)⟩ : TSpan)) fun x52 => (if (!x52) then ((⟨(0 : Int), (0 : Int)⟩ : TSpan), false) else ((⟨(gMax a0.Lo a1.Lo), (gMin a0.Hi a1.Hi)⟩ : TSpan), true)))
def span_must (a0 : Bool)  : Option Unit := (if (!a0) then none else some ())
def span_cut (a0 : TSpan) (a1 : Bool)  : TSpan := (if (!a1) then a0 else (if ((sShr .u64 a0.Lo (32 : Int)) != (sShr .u64 a0.Hi (32 : Int))) then (letF (span_All true) fun x39 => x39) else (⟨(bAnd .u64 a0.Lo (4294967295 : Int)), (bAnd .u64 a0.Hi (4294967295 : Int))⟩ : TSpan)))
def span_one (a0 : TSpan)  : Bool := (letF (span_Of a0.Lo) fun x13 => ((a0.Lo == x13.Lo) && (a0.Hi == x13.Hi)))
def span_over (a0 : Bool) (a1 : TSpan) (a2 : TSpan)  : Twork := (if a0 then (⟨(span_cut a1 a0), (span_cut a2 a0), a0, (4294967295 : Int), (32 : Int)⟩ : Twork) else (⟨(span_cut a1 a0), (span_cut a2 a0), a0, (18446744073709551615 : Int), (64 : Int)⟩ : Twork))
def span_work_both (a0 : Twork)  : Bool := (letF (span_one a0.a) fun x13 => (x13 && (span_one a0.b)))
def span_work_ends (a0 : Twork) (a1 : Int) (a2 : Int)  : TSpan := (⟨(bAnd .u64 a1 a0.most), (bAnd .u64 a2 a0.most)⟩ : TSpan)
def span_work_below (a0 : Twork) (a1 : Int)  : Bool := ((bAnd .u64 (sShr .u64 a1 (IntKind.u64.wrap (a0.size - (1 : Int)))) (1 : Int)) == (1 : Int))
def span_work_mixed (a0 : Twork) (a1 : TSpan)  : Bool := (letF (span_work_below a0 a1.Lo) fun x24 => (letF (span_work_below a0 a1.Hi) fun x27 => (x24 != x27)))
def alu_do_u32_1  (c0 : Int) (c1 : Int) : Int := (IntKind.u32.wrap (c0 + c1))
def alu_do_u32_2  (c0 : Int) (c1 : Int) : Int := (IntKind.u32.wrap (c0 - c1))
def alu_do_u32_3  (c0 : Int) (c1 : Int) : Int := (IntKind.u32.wrap (c0 * c1))
def alu_do_u32_4  (c0 : Int) (c1 : Int) : Int := (IntKind.u32.wrap ((c0).tdiv c1))
def alu_do_u32_5  (c0 : Int) (c1 : Int) : Int := ((c0).tmod c1)
def alu_do_u32_6  (c0 : Int) (c1 : Int) : Int := (bAnd .u32 c0 c1)
def alu_do_u32_7  (c0 : Int) (c1 : Int) : Int := (bOr .u32 c0 c1)
def alu_do_u32_8  (c0 : Int) (c1 : Int) : Int := (bXor .u32 c0 c1)
def alu_do_u32_9  (c0 : Int) (c1 : Int) (c2 : Int) : Int := (sShl .u32 c0 ((c1).tmod c2))
def alu_do_u32_10  (c0 : Int) (c1 : Int) (c2 : Int) : Int := (sShr .u32 c0 ((c1).tmod c2))
def alu_do_u32_11  (c0 : Int) (c1 : Int) (c2 : Int) : Int := (IntKind.u32.wrap (sShr .i32 (IntKind.i32.wrap c0) ((c1).tmod c2)))
def alu_do_u32_12  (c0 : Int) : Int := c0
def alu_do_u32_13  (c0 : Int) : Int := (IntKind.u32.wrap (0 - c0))
def alu_do_u32 (a0 : Int) (a1 : Int) (a2 : Int) (a3 : Int)  : (Int × Int) := (if (((a0 == (4 : Int)) || (a0 == (5 : Int))) && (a3 == (0 : Int))) then ((0 : Int), (113 : Int)) else (if (a0 == (1 : Int)) then (letF (alu_do_u32_1 a2 a3) fun x129 => (x129, (0 : Int))) else (if (a0 == (2 : Int)) then (letF (alu_do_u32_2 a2 a3) fun x145 => (x145, (0 : Int))) else (if (a0 == (3 : Int)) then (letF (alu_do_u32_3 a2 a3) fun x161 => (x161, (0 : Int))) else (if (a0 == (4 : Int)) then (letF (alu_do_u32_4 a2 a3) fun x177 => (x177, (0 : Int))) else (if (a0 == (5 : Int)) then (letF (alu_do_u32_5 a2 a3) fun x193 => (x193, (0 : Int))) else (if (a0 == (6 : Int)) then (letF (alu_do_u32_6 a2 a3) fun x209 => (x209, (0 : Int))) else (if (a0 == (7 : Int)) then (letF (alu_do_u32_7 a2 a3) fun x225 => (x225, (0 : Int))) else (if (a0 == (8 : Int)) then (letF (alu_do_u32_8 a2 a3) fun x241 => (x241, (0 : Int))) else (if (a0 == (9 : Int)) then (letF (alu_do_u32_9 a2 a3 a1) fun x258 => (x258, (0 : Int))) else (if (a0 == (10 : Int)) then (letF (alu_do_u32_10 a2 a3 a1) fun x275 => (x275, (0 : Int))) else (if (a0 == (11 : Int)) then (letF (alu_do_u32_11 a2 a3 a1) fun x292 => (x292, (0 : Int))) else (if (a0 == (12 : Int)) then (letF (alu_do_u32_12 a3) fun x307 => (x307, (0 : Int))) else (if (a0 == (13 : Int)) then (letF (alu_do_u32_13 a2) fun x322 => (x322, (0 : Int))) else ((0 : Int), (2 : Int))))))))))))))))
def alu_do_u64_1  (c0 : Int) (c1 : Int) : Int := (IntKind.u64.wrap (c0 + c1))
def alu_do_u64_2  (c0 : Int) (c1 : Int) : Int := (IntKind.u64.wrap (c0 - c1))
def alu_do_u64_3  (c0 : Int) (c1 : Int) : Int := (IntKind.u64.wrap (c0 * c1))
def alu_do_u64_4  (c0 : Int) (c1 : Int) : Int := (IntKind.u64.wrap ((c0).tdiv c1))
def alu_do_u64_5  (c0 : Int) (c1 : Int) : Int := ((c0).tmod c1)
def alu_do_u64_6  (c0 : Int) (c1 : Int) : Int := (bAnd .u64 c0 c1)
def alu_do_u64_7  (c0 : Int) (c1 : Int) : Int := (bOr .u64 c0 c1)
def alu_do_u64_8  (c0 : Int) (c1 : Int) : Int := (bXor .u64 c0 c1)
def alu_do_u64_9  (c0 : Int) (c1 : Int) (c2 : Int) : Int := (sShl .u64 c0 ((c1).tmod c2))
def alu_do_u64_10  (c0 : Int) (c1 : Int) (c2 : Int) : Int := (sShr .u64 c0 ((c1).tmod c2))
def alu_do_u64_11  (c0 : Int) (c1 : Int) (c2 : Int) : Int := (IntKind.u64.wrap (sShr .i64 (IntKind.i64.wrap c0) ((c1).tmod c2)))
def alu_do_u64_12  (c0 : Int) : Int := c0
def alu_do_u64_13  (c0 : Int) : Int := (IntKind.u64.wrap (0 - c0))
def alu_do_u64 (a0 : Int) (a1 : Int) (a2 : Int) (a3 : Int)  : (Int × Int) := (if (((a0 == (4 : Int)) || (a0 == (5 : Int))) && (a3 == (0 : Int))) then ((0 : Int), (113 : Int)) else (if (a0 == (1 : Int)) then (letF (alu_do_u64_1 a2 a3) fun x129 => (x129, (0 : Int))) else (if (a0 == (2 : Int)) then (letF (alu_do_u64_2 a2 a3) fun x145 => (x145, (0 : Int))) else (if (a0 == (3 : Int)) then (letF (alu_do_u64_3 a2 a3) fun x161 => (x161, (0 : Int))) else (if (a0 == (4 : Int)) then (letF (alu_do_u64_4 a2 a3) fun x177 => (x177, (0 : Int))) else (if (a0 == (5 : Int)) then (letF (alu_do_u64_5 a2 a3) fun x193 => (x193, (0 : Int))) else (if (a0 == (6 : Int)) then (letF (alu_do_u64_6 a2 a3) fun x209 => (x209, (0 : Int))) else (if (a0 == (7 : Int)) then (letF (alu_do_u64_7 a2 a3) fun x225 => (x225, (0 : Int))) else (if (a0 == (8 : Int)) then (letF (alu_do_u64_8 a2 a3) fun x241 => (x241, (0 : Int))) else (if (a0 == (9 : Int)) then (letF (alu_do_u64_9 a2 a3 a1) fun x258 => (x258, (0 : Int))) else (if (a0 == (10 : Int)) then (letF (alu_do_u64_10 a2 a3 a1) fun x275 => (x275, (0 : Int))) else (if (a0 == (11 : Int)) then (letF (alu_do_u64_11 a2 a3 a1) fun x292 => (x292, (0 : Int))) else (if (a0 == (12 : Int)) then (letF (alu_do_u64_12 a3) fun x307 => (x307, (0 : Int))) else (if (a0 == (13 : Int)) then (letF (alu_do_u64_13 a2) fun x322 => (x322, (0 : Int))) else ((0 : Int), (2 : Int))))))))))))))))
def alu_Do (a0 : Int) (a1 : Bool) (a2 : Int) (a3 : Int)  : (Int × Int) := (if a1 then (letF (alu_do_u32 a0 (32 : Int) (IntKind.u32.wrap a2) (IntKind.u32.wrap a3)) fun x7 => ((x7.1), x7.2)) else (letF (alu_do_u64 a0 (64 : Int) a2 a3) fun x19 => (x19.1, x19.2)))
def span_without_J0 (a0 : TSpan) (a1 : TSpan) (_x35 : Bool) (v100 : Int) : TSpan := (if (a0.Hi == a1.Lo) then (⟨v100, (IntKind.u64.wrap (a0.Hi - (1 : Int)))⟩ : TSpan) else (⟨v100, a0.Hi⟩ : TSpan))
def span_without (a0 : TSpan) (a1 : TSpan)  : TSpan := (letF (span_one a0) fun x35 => (if (x35 || (!(span_one a1))) then a0 else (if (a0.Lo == a1.Lo) then (span_without_J0 a0 a1 x35 (IntKind.u64.wrap (a0.Lo + (1 : Int)))) else (span_without_J0 a0 a1 x35 a0.Lo))))
def span_work_turned (a0 : Twork)  : Twork := (⟨a0.b, a0.a, a0.narrow, a0.most, a0.size⟩ : Twork)
def span_work_add (a0 : Twork)  : Option TSpan := (optF (span_must ((decide (a0.b.Hi ≤ (IntKind.u64.wrap (a0.most - a0.a.Hi)))) || (decide (a0.b.Lo > (IntKind.u64.wrap (a0.most - a0.a.Lo)))))) (none) fun _ => (letF (span_work_ends a0 (IntKind.u64.wrap (a0.a.Lo + a0.b.Lo)) (IntKind.u64.wrap (a0.a.Hi + a0.b.Hi))) fun x46 => some x46))
def span_work_sub (a0 : Twork)  : Option TSpan := (optF (span_must ((decide (a0.a.Lo ≥ a0.b.Hi)) || (decide (a0.a.Hi < a0.b.Lo)))) (none) fun _ => (letF (span_work_ends a0 (IntKind.u64.wrap (a0.a.Lo - a0.b.Hi)) (IntKind.u64.wrap (a0.a.Hi - a0.b.Lo))) fun x46 => some x46))
def span_work_div (a0 : Twork)  : TSpan := (⟨(IntKind.u64.wrap ((a0.a.Lo).tdiv (gMax a0.b.Hi (1 : Int)))), (IntKind.u64.wrap ((a0.a.Hi).tdiv (gMax a0.b.Lo (1 : Int))))⟩ : TSpan)
def span_work_mod (a0 : Twork)  : TSpan := (if decide (a0.a.Hi < (gMax a0.b.Lo (1 : Int))) then a0.a else (⟨(0 : Int), (gMin a0.a.Hi (IntKind.u64.wrap ((gMax a0.b.Hi (1 : Int)) - (1 : Int))))⟩ : TSpan))
def span_work_and (a0 : Twork)  : TSpan := (letF (span_work_both a0) fun x25 => (if x25 then (letF (span_Of (bAnd .u64 a0.a.Lo a0.b.Lo)) fun x36 => x36) else (⟨(0 : Int), (gMin a0.a.Hi a0.b.Hi)⟩ : TSpan)))
def span_work_mov (a0 : Twork)  : TSpan := a0.b
def span_work_neg (a0 : Twork)  : Option TSpan := (if (a0.a.Hi == (0 : Int)) then some a0.a else (optF (span_must (decide (a0.a.Lo > (0 : Int)))) (none) fun _ => (letF (span_work_ends a0 (IntKind.u64.wrap (0 - a0.a.Hi)) (IntKind.u64.wrap (0 - a0.a.Lo))) fun x49 => some x49)))
def span_work_shl (a0 : Twork)  : Option TSpan := (letF (span_one a0.b) fun x26 => (optF (span_must (x26 && (decide (a0.a.Hi ≤ (sShr .u64 a0.most ((a0.b.Lo).tmod a0.size)))))) (none) fun _ => some (⟨(sShl .u64 a0.a.Lo ((a0.b.Lo).tmod a0.size)), (sShl .u64 a0.a.Hi ((a0.b.Lo).tmod a0.size))⟩ : TSpan)))
def span_work_shr_J0 (a0 : Twork) (v100 : Int) (v101 : Int) : TSpan := (⟨(sShr .u64 a0.a.Lo v100), (sShr .u64 a0.a.Hi v101)⟩ : TSpan)
def span_work_shr (a0 : Twork)  : TSpan := (letF (span_one a0.b) fun x36 => (if x36 then (span_work_shr_J0 a0 ((a0.b.Hi).tmod a0.size) ((a0.b.Lo).tmod a0.size)) else (if decide (a0.b.Hi ≥ a0.size) then (⟨(0 : Int), a0.a.Hi⟩ : TSpan) else (span_work_shr_J0 a0 a0.b.Hi a0.b.Lo))))
def span_work_sar (a0 : Twork)  : Option TSpan := (letF (span_one a0.b) fun x24 => (optF (span_must (x24 && (!(span_work_mixed a0 a0.a)))) (none) fun _ => (letF (alu_Do (11 : Int) a0.narrow a0.a.Lo a0.b.Lo) fun x58 => (letF (alu_Do (11 : Int) a0.narrow a0.a.Hi a0.b.Lo) fun x68 => some (⟨x58.1, x68.1⟩ : TSpan)))))
def span_work_set (a0 : Twork) (a1 : Bool)  : Option (TSpan × TSpan) := (if (!a1) then (letF (span_work_both a0) fun x39 => (optF (span_must ((!x39) || (!((bAnd .u64 a0.a.Lo a0.b.Lo) != (0 : Int))))) (none) fun _ => some (a0.a, a0.b))) else (optF (span_must (((decide (a0.a.Hi > (0 : Int))) && (decide (a0.b.Hi > (0 : Int)))) && ((!(span_work_both a0)) || ((bAnd .u64 a0.a.Lo a0.b.Lo) != (0 : Int))))) (none) fun _ => some ((⟨(gMax a0.a.Lo (1 : Int)), a0.a.Hi⟩ : TSpan), (⟨(gMax a0.b.Lo (1 : Int)), a0.b.Hi⟩ : TSpan))))
def tab0 : List Int := [0, 1, 2, 2, 3, 3, 3, 3, 4, 4, 4, 4, 4, 4, 4, 4, 5, 5, 5, 5, 5, 5, 5, 5, 5, 5, 5, 5, 5, 5, 5, 5, 6, 6, 6, 6, 6, 6, 6, 6, 6, 6, 6, 6, 6, 6, 6, 6, 6, 6, 6, 6, 6, 6, 6, 6, 6, 6, 6, 6, 6, 6, 6, 6, 7, 7, 7, 7, 7, 7, 7, 7, 7, 7, 7, 7, 7, 7, 7, 7, 7, 7, 7, 7, 7, 7, 7, 7, 7, 7, 7, 7, 7, 7, 7, 7, 7, 7, 7, 7, 7, 7, 7, 7, 7, 7, 7, 7, 7, 7, 7, 7, 7, 7, 7, 7, 7, 7, 7, 7, 7, 7, 7, 7, 7, 7, 7, 7, 8, 8, 8, 8, 8, 8, 8, 8, 8, 8, 8, 8, 8, 8, 8, 8, 8, 8, 8, 8, 8, 8, 8, 8, 8, 8, 8, 8, 8, 8, 8, 8, 8, 8, 8, 8, 8, 8, 8, 8, 8, 8, 8, 8, 8, 8, 8, 8, 8, 8, 8, 8, 8, 8, 8, 8, 8, 8, 8, 8, 8, 8, 8, 8, 8, 8, 8, 8, 8, 8, 8, 8, 8, 8, 8, 8, 8, 8, 8, 8, 8, 8, 8, 8, 8, 8, 8, 8, 8, 8, 8, 8, 8, 8, 8, 8, 8, 8, 8, 8, 8, 8, 8, 8, 8, 8, 8, 8, 8, 8, 8, 8, 8, 8, 8, 8, 8, 8, 8, 8, 8, 8, 8, 8, 8, 8, 8, 8]
def Len64 (a0 : Int)  : Int := (if decide (a0 ≥ (4294967296 : Int)) then (if decide ((sShr .u64 a0 (32 : Int)) ≥ (65536 : Int)) then (if decide ((sShr .u64 (sShr .u64 a0 (32 : Int)) (16 : Int)) ≥ (256 : Int)) then ((56 : Int) + ((tab0.getD (IntKind.u8.wrap (sShr .u64 (sShr .u64 (sShr .u64 a0 (32 : Int)) (16 : Int)) (8 : Int))).toNat 0))) else ((48 : Int) + ((tab0.getD (IntKind.u8.wrap (sShr .u64 (sShr .u64 a0 (32 : Int)) (16 : Int))).toNat 0)))) else (if decide ((sShr .u64 a0 (32 : Int)) ≥ (256 : Int)) then ((40 : Int) + ((tab0.getD (IntKind.u8.wrap (sShr .u64 (sShr .u64 a0 (32 : Int)) (8 : Int))).toNat 0))) else ((32 : Int) + ((tab0.getD (IntKind.u8.wrap (sShr .u64 a0 (32 : Int))).toNat 0))))) else (if decide (a0 ≥ (65536 : Int)) then (if decide ((sShr .u64 a0 (16 : Int)) ≥ (256 : Int)) then ((24 : Int) + ((tab0.getD (IntKind.u8.wrap (sShr .u64 (sShr .u64 a0 (16 : Int)) (8 : Int))).toNat 0))) else ((16 : Int) + ((tab0.getD (IntKind.u8.wrap (sShr .u64 a0 (16 : Int))).toNat 0)))) else (if decide (a0 ≥ (256 : Int)) then ((8 : Int) + ((tab0.getD (IntKind.u8.wrap (sShr .u64 a0 (8 : Int))).toNat 0))) else ((0 : Int) + ((tab0.getD (IntKind.u8.wrap a0).toNat 0))))))
def Mul64 (a0 : Int) (a1 : Int)  : (Int × Int) := ((IntKind.u64.wrap ((IntKind.u64.wrap ((IntKind.u64.wrap ((sShr .u64 a0 (32 : Int)) * (sShr .u64 a1 (32 : Int)))) + (sShr .u64 (IntKind.u64.wrap ((IntKind.u64.wrap ((sShr .u64 a0 (32 : Int)) * (bAnd .u64 a1 (4294967295 : Int)))) + (sShr .u64 (IntKind.u64.wrap ((bAnd .u64 a0 (4294967295 : Int)) * (bAnd .u64 a1 (4294967295 : Int)))) (32 : Int)))) (32 : Int)))) + (sShr .u64 (IntKind.u64.wrap ((bAnd .u64 (IntKind.u64.wrap ((IntKind.u64.wrap ((sShr .u64 a0 (32 : Int)) * (bAnd .u64 a1 (4294967295 : Int)))) + (sShr .u64 (IntKind.u64.wrap ((bAnd .u64 a0 (4294967295 : Int)) * (bAnd .u64 a1 (4294967295 : Int)))) (32 : Int)))) (4294967295 : Int)) + (IntKind.u64.wrap ((bAnd .u64 a0 (4294967295 : Int)) * (sShr .u64 a1 (32 : Int)))))) (32 : Int)))), (IntKind.u64.wrap (a0 * a1)))
def span_fill (a0 : Int)  : Int := (letF (Len64 a0) fun x3 => (IntKind.u64.wrap ((sShl .u64 (1 : Int) x3) - (1 : Int))))
def span_work_or (a0 : Twork)  : TSpan := (letF (span_work_both a0) fun x25 => (if x25 then (letF (span_Of (bOr .u64 a0.a.Lo a0.b.Lo)) fun x36 => x36) else (⟨(gMax a0.a.Lo a0.b.Lo), (span_fill (bOr .u64 a0.a.Hi a0.b.Hi))⟩ : TSpan)))
def span_work_xor (a0 : Twork)  : TSpan := (letF (span_work_both a0) fun x25 => (if x25 then (letF (span_Of (bXor .u64 a0.a.Lo a0.b.Lo)) fun x36 => x36) else (letF (span_fill (bOr .u64 a0.a.Hi a0.b.Hi)) fun x53 => (⟨(0 : Int), x53⟩ : TSpan))))
def span_work_mul (a0 : Twork)  : Option TSpan := (letF (Mul64 a0.a.Hi a0.b.Hi) fun x24 => (optF (span_must ((x24.1 == (0 : Int)) && (decide (x24.2 ≤ a0.most)))) (none) fun _ => some (⟨(IntKind.u64.wrap (a0.a.Lo * a0.b.Lo)), x24.2⟩ : TSpan)))
def span_work_plain_19 (a0 : Twork)  : Option (TSpan × TSpan) := (optF (span_must (decide (a0.a.Hi > a0.b.Lo))) (none) fun _ => some ((⟨(gMax a0.a.Lo (IntKind.u64.wrap (a0.b.Lo + (1 : Int)))), a0.a.Hi⟩ : TSpan), (⟨a0.b.Lo, (gMin a0.b.Hi (IntKind.u64.wrap (a0.a.Hi - (1 : Int))))⟩ : TSpan)))
def span_work_plain_20 (a0 : Twork)  : Option (TSpan × TSpan) := (optF (span_must (decide (a0.a.Hi ≥ a0.b.Lo))) (none) fun _ => some ((⟨(gMax a0.a.Lo a0.b.Lo), a0.a.Hi⟩ : TSpan), (⟨a0.b.Lo, (gMin a0.b.Hi a0.a.Hi)⟩ : TSpan)))
def rule0_is (x : Int) : Bool := (x == (1 : Int)) || (x == (2 : Int)) || (x == (3 : Int)) || (x == (4 : Int)) || (x == (5 : Int)) || (x == (6 : Int)) || (x == (7 : Int)) || (x == (8 : Int)) || (x == (9 : Int)) || (x == (10 : Int)) || (x == (11 : Int)) || (x == (12 : Int)) || (x == (13 : Int))
def span_Do (a0 : Int) (a1 : Bool) (a2 : TSpan) (a3 : TSpan)  : TSpan := (if (((!(rule0_is a0)) || (!(span_Right a2))) || (!(span_Right a3))) then (letF (span_All a1) fun x84 => x84) else (letF (span_over a1 a2 a3) fun x104 => (if (a0 == (1 : Int)) then (optF (span_work_add x104) ((span_All a1)) fun x115 => x115) else (if (a0 == (2 : Int)) then (optF (span_work_sub x104) ((span_All a1)) fun x140 => x140) else (if (a0 == (3 : Int)) then (optF (span_work_mul x104) ((span_All a1)) fun x165 => x165) else (if (a0 == (4 : Int)) then (letF (span_work_div x104) fun x190 => x190) else (if (a0 == (5 : Int)) then (letF (span_work_mod x104) fun x208 => x208) else (if (a0 == (6 : Int)) then (letF (span_work_and x104) fun x226 => x226) else (if (a0 == (7 : Int)) then (letF (span_work_or x104) fun x244 => x244) else (if (a0 == (8 : Int)) then (letF (span_work_xor x104) fun x262 => x262) else (if (a0 == (9 : Int)) then (optF (span_work_shl x104) ((span_All a1)) fun x280 => x280) else (if (a0 == (10 : Int)) then (letF (span_work_shr x104) fun x305 => x305) else (if (a0 == (11 : Int)) then (optF (span_work_sar x104) ((span_All a1)) fun x323 => x323) else (if (a0 == (12 : Int)) then (letF (span_work_mov x104) fun x348 => x348) else (if (a0 == (13 : Int)) then (optF (span_work_neg x104) ((span_All a1)) fun x366 => x366) else default)))))))))))))))
def span_work_plain (a0 : Twork) (a1 : Int)  : Option (TSpan × TSpan) := (if (a1 == (17 : Int)) then (letF (span_Meet a0.a a0.b) fun x39 => (optF (span_must x39.2) (none) fun _ => some (x39.1, x39.1))) else (if (a1 == (18 : Int)) then (letF (span_work_both a0) fun x132 => (optF (span_must ((!x132) || (!((a0.a.Lo == a0.b.Lo) && (a0.a.Hi == a0.b.Hi))))) (none) fun _ => (letF (span_without a0.b a0.a) fun x220 => some ((span_without a0.a a0.b), x220)))) else (if (a1 == (19 : Int)) then (optF (span_must (decide (a0.a.Hi > a0.b.Lo))) (none) fun _ => some ((⟨(gMax a0.a.Lo (IntKind.u64.wrap (a0.b.Lo + (1 : Int)))), a0.a.Hi⟩ : TSpan), (⟨a0.b.Lo, (gMin a0.b.Hi (IntKind.u64.wrap (a0.a.Hi - (1 : Int))))⟩ : TSpan))) else (if (a1 == (20 : Int)) then (optF (span_must (decide (a0.a.Hi ≥ a0.b.Lo))) (none) fun _ => some ((⟨(gMax a0.a.Lo a0.b.Lo), a0.a.Hi⟩ : TSpan), (⟨a0.b.Lo, (gMin a0.b.Hi a0.a.Hi)⟩ : TSpan))) else (if (a1 == (21 : Int)) then (letF (span_work_turned a0) fun x462 => (optF (span_work_plain_19 x462) (none) fun x470 => some (x470.2, x470.1))) else (if (a1 == (22 : Int)) then (letF (span_work_turned a0) fun x550 => (optF (span_work_plain_20 x550) (none) fun x558 => some (x558.2, x558.1))) else some ((⟨(0 : Int), (0 : Int)⟩ : TSpan), (⟨(0 : Int), (0 : Int)⟩ : TSpan))))))))
def span_work_signed (a0 : Twork) (a1 : Int)  : Option (TSpan × TSpan) := (letF (span_work_mixed a0 a0.a) fun x35 => (if (x35 || (span_work_mixed a0 a0.b)) then some (a0.a, a0.b) else (letF (span_work_below a0 a0.a.Lo) fun x112 => (letF (span_work_below a0 a0.b.Lo) fun x115 => (if (x112 == x115) then (optF (span_work_plain a0 (IntKind.u8.wrap ((IntKind.u8.wrap (a1 - (23 : Int))) + (19 : Int)))) (none) fun x126 => some (x126.1, x126.2)) else (letF (span_work_below a0 a0.b.Lo) fun x155 => (optF (span_must (((a1 == (23 : Int)) || (a1 == (24 : Int))) == x155)) (none) fun _ => some (a0.a, a0.b))))))))
def span_opposites   : Unit := ()
def span_work_ask_J0 (a0 : Twork) (_a1 : Int) (_a2 : Bool) (v100 : Int) : Option (TSpan × TSpan) := (if decide (v100 ≥ (23 : Int)) then (optF (span_work_signed a0 v100) (none) fun x99 => some (x99.1, x99.2)) else (optF (span_work_plain a0 v100) (none) fun x127 => some (x127.1, x127.2)))
def span_work_ask (a0 : Twork) (a1 : Int) (a2 : Bool)  : Option (TSpan × TSpan) := (if (a1 == (27 : Int)) then (optF (span_work_set a0 a2) (none) fun x38 => some (x38.1, x38.2)) else (if (!a2) then (letF (span_opposites) fun _ => (span_work_ask_J0 a0 a1 a2 (([(0 : Int), (0 : Int), (0 : Int), (0 : Int), (0 : Int), (0 : Int), (0 : Int), (0 : Int), (0 : Int), (0 : Int), (0 : Int), (0 : Int), (0 : Int), (0 : Int), (0 : Int), (0 : Int), (0 : Int), (18 : Int), (17 : Int), (22 : Int), (21 : Int), (20 : Int), (19 : Int), (26 : Int), (25 : Int), (24 : Int), (23 : Int), (27 : Int)] : List Int).getD a1.toNat 0))) else (span_work_ask_J0 a0 a1 a2 a1)))
def span_If_J0 (_a0 : Int) (_a1 : Bool) (_a2 : Bool) (_a3 : TSpan) (a4 : TSpan) (x145 : Twork) (x169 : (TSpan × TSpan)) (v100 : Int) (v101 : Int) : (TSpan × TSpan × Bool) := (if decide (a4.Hi > x145.most) then ((⟨v100, v101⟩ : TSpan), a4, true) else ((⟨v100, v101⟩ : TSpan), x169.2, true))
def span_If (a0 : Int) (a1 : Bool) (a2 : Bool) (a3 : TSpan) (a4 : TSpan)  : (TSpan × TSpan × Bool) := (if ((((decide (a0 < (17 : Int))) || (decide (a0 > (27 : Int)))) || (!(span_Right a3))) || (!(span_Right a4))) then (a3, a4, true) else (letF (span_over a1 a3 a4) fun x145 => (optF (span_work_ask x145 a0 a2) (((⟨(0 : Int), (0 : Int)⟩ : TSpan), (⟨(0 : Int), (0 : Int)⟩ : TSpan), false)) fun x169 => (if decide (a3.Hi > x145.most) then (span_If_J0 a0 a1 a2 a3 a4 x145 x169 a3.Lo a3.Hi) else (span_If_J0 a0 a1 a2 a3 a4 x145 x169 x169.1.Lo x169.1.Hi)))))
def ref11_most (a0 : Bool)  : Int := (if a0 then (4294967295 : Int) else (18446744073709551615 : Int))
def ref11_All (a0 : Bool)  : TSpan := (letF (ref11_most a0) fun x13 => (⟨(0 : Int), x13⟩ : TSpan))
def ref11_Of (a0 : Int)  : TSpan := (⟨a0, a0⟩ : TSpan)
def ref11_Right (a0 : TSpan)  : Bool := decide (a0.Lo ≤ a0.Hi)
def ref11_Has (a0 : TSpan) (a1 : Int)  : Bool := ((decide (a1 ≥ a0.Lo)) && (decide (a1 ≤ a0.Hi)))
def ref11_Within (a0 : TSpan) (a1 : TSpan)  : Bool := ((decide (a0.Lo ≥ a1.Lo)) && (decide (a0.Hi ≤ a1.Hi)))
def ref11_Join (a0 : TSpan) (a1 : TSpan)  : TSpan := (⟨(gMin a0.Lo a1.Lo), (gMax a0.Hi a1.Hi)⟩ : TSpan)
def ref11_Meet (a0 : TSpan) (a1 : TSpan)  : (TSpan × Bool) := (letF (ref11_Right (⟨(gMax a0.Lo a1.Lo), (gMin a0.Hi a1.Hi)⟩ : TSpan)) fun x52 => (if (!x52) then ((⟨(0 : Int), (0 : Int)⟩ : TSpan), false) else ((⟨(gMax a0.Lo a1.Lo), (gMin a0.Hi a1.Hi)⟩ : TSpan), true)))
def ref11_cut (a0 : TSpan) (a1 : Bool)  : TSpan := (if (!a1) then a0 else (if ((sShr .u64 a0.Lo (32 : Int)) != (sShr .u64 a0.Hi (32 : Int))) then (letF (ref11_All true) fun x40 => x40) else (⟨(bAnd .u64 a0.Lo (4294967295 : Int)), (bAnd .u64 a0.Hi (4294967295 : Int))⟩ : TSpan)))
def ref11_below (a0 : Int) (a1 : Bool)  : Bool := (if a1 then ((bAnd .u64 (sShr .u64 a0 (31 : Int)) (1 : Int)) == (1 : Int)) else ((sShr .u64 a0 (63 : Int)) == (1 : Int)))
def ref11_bits (a0 : Bool)  : Int := (if a0 then (32 : Int) else (64 : Int))
def ref11_parts (a0 : Int) (a1 : TSpan) (a2 : TSpan)  : TSpan := (if (a0 == (4 : Int)) then (⟨(IntKind.u64.wrap ((a1.Lo).tdiv (gMax a2.Hi (1 : Int)))), (IntKind.u64.wrap ((a1.Hi).tdiv (gMax a2.Lo (1 : Int))))⟩ : TSpan) else (if decide (a1.Hi < (gMax a2.Lo (1 : Int))) then a1 else (⟨(0 : Int), (gMin a1.Hi (IntKind.u64.wrap ((gMax a2.Hi (1 : Int)) - (1 : Int))))⟩ : TSpan)))
def ref11_single (a0 : TSpan)  : Bool := (a0.Lo == a0.Hi)
def ref11_sums (a0 : Int) (a1 : Int) (a2 : TSpan) (a3 : TSpan)  : (TSpan × Bool) := (if (a0 == (1 : Int)) then ((⟨(bAnd .u64 (IntKind.u64.wrap (a2.Lo + a3.Lo)) a1), (bAnd .u64 (IntKind.u64.wrap (a2.Hi + a3.Hi)) a1)⟩ : TSpan), ((decide (a3.Hi ≤ (IntKind.u64.wrap (a1 - a2.Hi)))) || (decide (a3.Lo > (IntKind.u64.wrap (a1 - a2.Lo)))))) else (if (a0 == (2 : Int)) then (if decide (a2.Lo ≥ a3.Hi) then ((⟨(bAnd .u64 (IntKind.u64.wrap (a2.Lo - a3.Hi)) a1), (bAnd .u64 (IntKind.u64.wrap (a2.Hi - a3.Lo)) a1)⟩ : TSpan), true) else ((⟨(bAnd .u64 (IntKind.u64.wrap (a2.Lo - a3.Hi)) a1), (bAnd .u64 (IntKind.u64.wrap (a2.Hi - a3.Lo)) a1)⟩ : TSpan), decide (a2.Hi < a3.Lo))) else (if (a0 == (3 : Int)) then (if (a3.Hi == (0 : Int)) then ((⟨(IntKind.u64.wrap (a2.Lo * a3.Lo)), (IntKind.u64.wrap (a2.Hi * a3.Hi))⟩ : TSpan), true) else ((⟨(IntKind.u64.wrap (a2.Lo * a3.Lo)), (IntKind.u64.wrap (a2.Hi * a3.Hi))⟩ : TSpan), decide (a2.Hi ≤ (IntKind.u64.wrap ((a1).tdiv a3.Hi))))) else (if (a2.Hi == (0 : Int)) then (a2, true) else ((⟨(bAnd .u64 (IntKind.u64.wrap ((0 : Int) - a2.Hi)) a1), (bAnd .u64 (IntKind.u64.wrap ((0 : Int) - a2.Lo)) a1)⟩ : TSpan), decide (a2.Lo > (0 : Int)))))))
def ref01_bit (a0 : Int) (a1 : Int)  : Bool := ((bAnd .u64 (sShr .u64 a0 (IntKind.u64.wrap a1)) (1 : Int)) == (1 : Int))
def ref01_moved_L0 (a0 : Int) (a1 : Int) (a2 : Int) (a3 : Bool) : Nat → Int → Nat → Int
  | 0, _, _ => default
  | fu0 + 1, v9, v10 => (if decide (((v10 : Nat) : Int) < a2) then (if ((decide ((((v10 : Nat) : Int) - a1) ≥ (0 : Int))) && (decide ((((v10 : Nat) : Int) - a1) < a2))) then (letF (ref01_bit a0 (((v10 : Nat) : Int) - a1)) fun x20 => (if x20 then (ref01_moved_L0 a0 a1 a2 a3 fu0 (bOr .u64 v9 (sShl .u64 (1 : Int) (IntKind.u64.wrap ((v10 : Nat) : Int)))) (v10 + 1)) else (ref01_moved_L0 a0 a1 a2 a3 fu0 v9 (v10 + 1)))) else (if a3 then (ref01_moved_L0 a0 a1 a2 a3 fu0 (bOr .u64 v9 (sShl .u64 (1 : Int) (IntKind.u64.wrap ((v10 : Nat) : Int)))) (v10 + 1)) else (ref01_moved_L0 a0 a1 a2 a3 fu0 v9 (v10 + 1)))) else v9)
def ref01_moved (a0 : Int) (a1 : Int) (a2 : Int) (a3 : Bool)  : Int := (ref01_moved_L0 a0 a1 a2 a3 ((a2.toNat - 0) + 1) (0 : Int) 0)
def fillN (n : Int) : Int := if n = 0 then 0 else ((2 ^ (Nat.log2 n.toNat + 1) : Nat) : Int) - 1
def ref11_logic (a0 : Int) (a1 : TSpan) (a2 : TSpan)  : TSpan := (letF (ref11_single a1) fun x34 => (if ((a0 == (6 : Int)) && (x34 && (ref11_single a2))) then (letF (ref11_Of (bAnd .u64 a1.Lo a2.Lo)) fun x61 => x61) else (if ((a0 == (7 : Int)) && (x34 && (ref11_single a2))) then (letF (ref11_Of (bOr .u64 a1.Lo a2.Lo)) fun x82 => x82) else (if (x34 && (ref11_single a2)) then (letF (ref11_Of (bXor .u64 a1.Lo a2.Lo)) fun x103 => x103) else (if (a0 == (6 : Int)) then (⟨(0 : Int), (gMin a1.Hi a2.Hi)⟩ : TSpan) else (if (a0 == (7 : Int)) then (⟨(gMax a1.Lo a2.Lo), (fillN (bOr .u64 a1.Hi a2.Hi))⟩ : TSpan) else (letF (fillN (bOr .u64 a1.Hi a2.Hi)) fun x204 => (⟨(0 : Int), x204⟩ : TSpan))))))))
def ref01_Do_11 (a0 : Bool) (a1 : Int) (a2 : Int)  : (Int × Int) := (if a0 then (letF (ref01_bit (bAnd .u64 a1 (4294967295 : Int)) (31 : Int)) fun x28 => (letF (ref01_moved (bAnd .u64 a1 (4294967295 : Int)) (0 - ((((bAnd .u64 a2 (4294967295 : Int))).tmod (32 : Int)))) (32 : Int) x28) fun x31 => ((bAnd .u64 x31 (4294967295 : Int)), (0 : Int)))) else (letF (ref01_bit a1 (63 : Int)) fun x62 => (letF (ref01_moved a1 (0 - (((a2).tmod (64 : Int)))) (64 : Int) x62) fun x65 => (x65, (0 : Int)))))
def ref11_shifts (a0 : Int) (a1 : Bool) (a2 : TSpan) (a3 : TSpan)  : (TSpan × Bool) := (letF (ref11_most a1) fun x33 => (letF (ref11_bits a1) fun x41 => (if (a0 == (10 : Int)) then (letF (ref11_single a3) fun x58 => (if x58 then ((⟨(sShr .u64 a2.Lo ((a3.Lo).tmod x41)), (sShr .u64 a2.Hi ((a3.Lo).tmod x41))⟩ : TSpan), true) else (if decide (a3.Hi < x41) then ((⟨(sShr .u64 a2.Lo a3.Hi), (sShr .u64 a2.Hi a3.Lo)⟩ : TSpan), true) else ((⟨(0 : Int), a2.Hi⟩ : TSpan), true)))) else (letF (ref11_single a3) fun x100 => (if (!x100) then ((⟨(0 : Int), (0 : Int)⟩ : TSpan), false) else (if (a0 == (9 : Int)) then ((⟨(bAnd .u64 (sShl .u64 a2.Lo ((a3.Lo).tmod x41)) x33), (bAnd .u64 (sShl .u64 a2.Hi ((a3.Lo).tmod x41)) x33)⟩ : TSpan), decide (a2.Hi ≤ (sShr .u64 x33 ((a3.Lo).tmod x41)))) else (letF (ref01_Do_11 a1 a2.Lo ((a3.Lo).tmod x41)) fun x204 => (letF (ref01_Do_11 a1 a2.Hi ((a3.Lo).tmod x41)) fun x214 => ((⟨x204.1, x214.1⟩ : TSpan), ((ref11_below a2.Lo a1) == (ref11_below a2.Hi a1)))))))))))
def ref11_Do_J0 (_a0 : Int) (a1 : Bool) (_a2 : TSpan) (_a3 : TSpan) (v100 : Bool) (v101 : Int) (v102 : Int) : TSpan := (if (!v100) then (letF (ref11_All a1) fun x526 => x526) else (⟨v101, v102⟩ : TSpan))
def ref11_Do_J4 (a0 : Int) (a1 : Bool) (a2 : TSpan) (a3 : TSpan) (_v200 : Bool) (_v300 : Bool) (_v400 : Bool) (v500 : Bool) : TSpan := (if v500 then (letF (ref11_shifts a0 a1 (ref11_cut a2 a1) (ref11_cut a3 a1)) fun x493 => (ref11_Do_J0 a0 a1 a2 a3 x493.2 x493.1.Lo x493.1.Hi)) else (ref11_Do_J0 a0 a1 a2 a3 true (ref11_cut a3 a1).Lo (ref11_cut a3 a1).Hi))
def ref11_Do_J3 (a0 : Int) (a1 : Bool) (a2 : TSpan) (a3 : TSpan) (v200 : Bool) (v300 : Bool) (v400 : Bool) : TSpan := (if v400 then (letF (ref11_logic a0 (ref11_cut a2 a1) (ref11_cut a3 a1)) fun x443 => (ref11_Do_J0 a0 a1 a2 a3 true x443.Lo x443.Hi)) else (if (a0 == (9 : Int)) then (ref11_Do_J4 a0 a1 a2 a3 v200 v300 v400 true) else (if (a0 == (10 : Int)) then (ref11_Do_J4 a0 a1 a2 a3 v200 v300 v400 true) else (ref11_Do_J4 a0 a1 a2 a3 v200 v300 v400 (a0 == (11 : Int))))))
def ref11_Do_J2 (a0 : Int) (a1 : Bool) (a2 : TSpan) (a3 : TSpan) (v200 : Bool) (v300 : Bool) : TSpan := (if v300 then (letF (ref11_parts a0 (ref11_cut a2 a1) (ref11_cut a3 a1)) fun x393 => (ref11_Do_J0 a0 a1 a2 a3 true x393.Lo x393.Hi)) else (if (a0 == (6 : Int)) then (ref11_Do_J3 a0 a1 a2 a3 v200 v300 true) else (if (a0 == (7 : Int)) then (ref11_Do_J3 a0 a1 a2 a3 v200 v300 true) else (ref11_Do_J3 a0 a1 a2 a3 v200 v300 (a0 == (8 : Int))))))
def ref11_Do_J1 (a0 : Int) (a1 : Bool) (a2 : TSpan) (a3 : TSpan) (v200 : Bool) : TSpan := (if v200 then (ref11_Do_J0 a0 a1 a2 a3 (ref11_sums a0 (ref11_most a1) (ref11_cut a2 a1) (ref11_cut a3 a1)).2 (ref11_sums a0 (ref11_most a1) (ref11_cut a2 a1) (ref11_cut a3 a1)).1.Lo (ref11_sums a0 (ref11_most a1) (ref11_cut a2 a1) (ref11_cut a3 a1)).1.Hi) else (if (a0 == (4 : Int)) then (ref11_Do_J2 a0 a1 a2 a3 v200 true) else (ref11_Do_J2 a0 a1 a2 a3 v200 (a0 == (5 : Int)))))
def ref11_Do (a0 : Int) (a1 : Bool) (a2 : TSpan) (a3 : TSpan)  : TSpan := (if ((((decide (a0 < (1 : Int))) || (decide (a0 > (13 : Int)))) || (!(ref11_Right a2))) || (!(ref11_Right a3))) then (letF (ref11_All a1) fun x63 => x63) else (if (a0 == (1 : Int)) then (ref11_Do_J1 a0 a1 a2 a3 true) else (if (a0 == (2 : Int)) then (ref11_Do_J1 a0 a1 a2 a3 true) else (if (a0 == (3 : Int)) then (ref11_Do_J1 a0 a1 a2 a3 true) else (ref11_Do_J1 a0 a1 a2 a3 (a0 == (13 : Int)))))))
end Go.Y

/- Bits. -/
namespace Go.Y
open Go.RowKit Go.V Go.X Go.Proofs
/-- all bits below the highest of n. -/
theorem bv64 {x : Int} (h : IU64 x) : (BitVec.ofInt IntKind.u64.bits x).toNat = x.toNat := by
  rw [BitVec.toNat_ofInt]; simp only [IntKind.bits]; omega
theorem bAnd64 {x y : Int} (hx : IU64 x) (hy : IU64 y) : bAnd .u64 x y = ((x.toNat &&& y.toNat : Nat) : Int) := by
  unfold bAnd
  rw [BitVec.toNat_and, bv64 hx, bv64 hy, wrapU64_eq]
  have : x.toNat &&& y.toNat ≤ x.toNat := Nat.and_le_left
  omega
theorem lt64 {x : Int} (h : IU64 x) : x.toNat < 2 ^ 64 := by omega
theorem bOr64 {x y : Int} (hx : IU64 x) (hy : IU64 y) : bOr .u64 x y = ((x.toNat ||| y.toNat : Nat) : Int) := by
  unfold bOr
  rw [BitVec.toNat_or, bv64 hx, bv64 hy, wrapU64_eq]
  have := Nat.or_lt_two_pow (lt64 hx) (lt64 hy)
  omega
theorem bXor64 {x y : Int} (hx : IU64 x) (hy : IU64 y) : bXor .u64 x y = ((x.toNat ^^^ y.toNat : Nat) : Int) := by
  unfold bXor
  rw [BitVec.toNat_xor, bv64 hx, bv64 hy, wrapU64_eq]
  have := Nat.xor_lt_two_pow (lt64 hx) (lt64 hy)
  omega
theorem sShr64 {x y : Int} (hy : 0 ≤ y ∧ y ≤ 64) : sShr .u64 x y = x / 2 ^ y.toNat := by
  unfold sShr
  rw [Int.fdiv_eq_ediv_of_nonneg _ (by exact Int.le_of_lt (Int.pow_pos (by omega)))]
  congr 2
  simp only [IntKind.bits]; omega
theorem sShl64 {x y : Int} (hy : 0 ≤ y ∧ y ≤ 64) : sShl .u64 x y = (x * 2 ^ y.toNat) % 18446744073709551616 := by
  unfold sShl
  rw [wrapU64_eq]
  congr 3
  simp only [IntKind.bits]; omega
theorem mulHi (a b : Int) (ha : IU64 a) (hb : IU64 b) : (Mul64 a b).1 = (a * b) / 18446744073709551616 := by
  unfold Mul64
  simp only
  rw [sShr64 (by omega), sShr64 (by omega), bAnd64 ha (by omega), bAnd64 hb (by omega)]
  have e : ∀ x : Int, IU64 x → ((x.toNat &&& (4294967295 : Int).toNat : Nat) : Int) = x % 4294967296 := by
    intro x hx
    rw [show (4294967295 : Int).toNat = 2 ^ 32 - 1 from rfl, Nat.and_two_pow_sub_one_eq_mod]
    omega
  rw [e a ha, e b hb]
  have f : ∀ x : Int, IU64 x → sShr .u64 x 32 = x / 4294967296 := fun x hx => by rw [sShr64 (by omega)]; rfl
  rw [show (2 : Int) ^ (32 : Int).toNat = 4294967296 from rfl]
  generalize hA : a / 4294967296 = a1
  generalize hA0 : a % 4294967296 = a0
  generalize hB : b / 4294967296 = b1
  generalize hB0 : b % 4294967296 = b0
  have h1 : 0 ≤ a1 ∧ a1 ≤ 4294967295 := by omega
  have h2 : 0 ≤ a0 ∧ a0 ≤ 4294967295 := by omega
  have h3 : 0 ≤ b1 ∧ b1 ≤ 4294967295 := by omega
  have h4 : 0 ≤ b0 ∧ b0 ≤ 4294967295 := by omega
  have bd : ∀ x y : Int, (0 ≤ x ∧ x ≤ 4294967295) → (0 ≤ y ∧ y ≤ 4294967295) → 0 ≤ x * y ∧ x * y ≤ 18446744065119617025 := fun x y hx hy => ⟨Int.mul_nonneg hx.1 hy.1, Int.mul_le_mul hx.2 hy.2 hy.1 (by omega)⟩
  have p11 := bd a1 b1 h1 h3; have p10 := bd a1 b0 h1 h4; have p01 := bd a0 b1 h2 h3; have p00 := bd a0 b0 h2 h4
  have hab : a * b = (a1 * b1) * 18446744073709551616 + (a1 * b0 + a0 * b1) * 4294967296 + a0 * b0 := by
    rw [show a = a1 * 4294967296 + a0 by omega, show b = b1 * 4294967296 + b0 by omega]
    simp only [Int.add_mul, Int.mul_add]
    have c1 : a1 * 4294967296 * (b1 * 4294967296) = a1 * b1 * 18446744073709551616 := by rw [Int.mul_assoc, Int.mul_comm 4294967296, Int.mul_assoc, Int.mul_assoc]; rfl
    have c2 : a1 * 4294967296 * b0 = a1 * b0 * 4294967296 := by rw [Int.mul_assoc, Int.mul_comm 4294967296, Int.mul_assoc]
    have c3 : a0 * (b1 * 4294967296) = a0 * b1 * 4294967296 := by rw [Int.mul_assoc]
    omega
  rw [hab]
  generalize a1 * b1 = q11 at *; generalize a1 * b0 = q10 at *; generalize a0 * b1 = q01 at *; generalize a0 * b0 = q00 at *
  rw [wrapU64_eq q11, wrapU64_eq q10, wrapU64_eq q01, wrapU64_eq q00]
  rw [f (q00 % 18446744073709551616) (by omega)]
  rw [wrapU64_eq (q10 % 18446744073709551616 + _)]
  rw [f _ (by omega), bAnd64 (by omega) (by omega), e _ (by omega)]
  rw [wrapU64_eq ((q10 % 18446744073709551616 + q00 % 18446744073709551616 / 4294967296) % 18446744073709551616 % 4294967296 + _), f _ (by omega)]
  rw [wrapU64_eq, wrapU64_eq]
  omega
theorem mulLo (a b : Int) : (Mul64 a b).2 = (a * b) % 18446744073709551616 := by unfold Mul64; exact wrapU64_eq _
theorem tab0_log : ∀ i : Fin 256, tab0.getD i.val 0 = if i.val = 0 then 0 else ((Nat.log2 i.val + 1 : Nat) : Int) := by decide +kernel
theorem tab0_at {n : Nat} (h : n < 256) (h0 : n ≠ 0) : tab0.getD n 0 = ((Nat.log2 n + 1 : Nat) : Int) := by
  have := tab0_log ⟨n, h⟩
  simp only [h0, if_false] at this
  exact this
theorem log2_shift {n k : Nat} (h : n / 2 ^ k ≠ 0) : Nat.log2 n = Nat.log2 (n / 2 ^ k) + k := by
  induction k generalizing n with
  | zero => simp
  | succ k ih =>
    have e : n / 2 ^ (k + 1) = (n / 2) / 2 ^ k := by rw [Nat.pow_succ, Nat.mul_comm, Nat.div_div_eq_div_mul]
    rw [e] at h ⊢
    have h2 : 2 ≤ n := by
      apply Classical.byContradiction; intro hn
      have : n / 2 = 0 := by omega
      rw [this] at h; simp at h
    rw [Nat.log2_def, if_pos h2, ih h]; rfl
theorem Len64_eq {n : Int} (h : IU64 n) : Len64 n = if n = 0 then 0 else ((Nat.log2 n.toNat + 1 : Nat) : Int) := by
  obtain ⟨m, rfl⟩ := Int.eq_ofNat_of_zero_le h.1
  by_cases h0 : m = 0
  · subst h0; decide +kernel
  rw [if_neg (by omega)]
  have f8 : ∀ m : Nat, sShr .u64 (m : Int) 8 = ((m / 2 ^ 8 : Nat) : Int) := fun m => by rw [sShr64 (by omega)]; simp
  have f16 : ∀ m : Nat, sShr .u64 (m : Int) 16 = ((m / 2 ^ 16 : Nat) : Int) := fun m => by rw [sShr64 (by omega)]; simp
  have f32 : ∀ m : Nat, sShr .u64 (m : Int) 32 = ((m / 2 ^ 32 : Nat) : Int) := fun m => by rw [sShr64 (by omega)]; simp
  have w8 : ∀ m : Nat, m < 256 → (IntKind.u8.wrap (m : Int)).toNat = m := fun m hm => by rw [wrapU8_eq]; omega
  have key : ∀ (k : Nat), m / 2 ^ k < 256 → m / 2 ^ k ≠ 0 → ((k : Int) + tab0.getD (m / 2 ^ k) 0) = ((Nat.log2 m + 1 : Nat) : Int) := fun k h1 h2 => by
    rw [tab0_at h1 h2, log2_shift h2]
    omega
  have d : ∀ a b : Nat, m / 2 ^ a / 2 ^ b = m / 2 ^ (a + b) := fun a b => by rw [Nat.div_div_eq_div_mul, Nat.pow_add]
  unfold Len64
  simp only [f8, f16, f32, d, decide_eq_true_eq, Int.toNat_natCast]
  have p8 : m / 2 ^ 8 = m / 256 := rfl
  have p16 : m / 2 ^ 16 = m / 65536 := rfl
  have p24 : m / 2 ^ (16 + 8) = m / 16777216 := rfl
  have p32 : m / 2 ^ 32 = m / 4294967296 := rfl
  have p40 : m / 2 ^ (32 + 8) = m / 1099511627776 := rfl
  have p48 : m / 2 ^ (32 + 16) = m / 281474976710656 := rfl
  have p56 : m / 2 ^ (32 + 16 + 8) = m / 72057594037927936 := rfl
  repeat' split
  · rw [w8 _ (by omega)]; exact key 56 (by omega) (by omega)
  · rw [w8 _ (by omega)]; exact key 48 (by omega) (by omega)
  · rw [w8 _ (by omega)]; exact key 40 (by omega) (by omega)
  · rw [w8 _ (by omega)]; exact key 32 (by omega) (by omega)
  · rw [w8 _ (by omega)]; exact key 24 (by omega) (by omega)
  · rw [w8 _ (by omega)]; exact key 16 (by omega) (by omega)
  · rw [w8 _ (by omega)]; exact key 8 (by omega) (by omega)
  · have := key 0 (by omega) (by omega); rw [w8 _ (by omega)]; simpa using this
theorem fill_eq {n : Int} (h : IU64 n) : span_fill n = fillN n := by
  show IntKind.u64.wrap (sShl .u64 (1 : Int) (Len64 n) - 1) = _
  unfold fillN
  rw [Len64_eq h]
  split
  · subst_vars; rfl
  · have h1 : Nat.log2 n.toNat < 64 := (Nat.log2_lt (by omega)).2 (by omega)
    rw [sShl64 (by omega), wrapU64_eq, Int.toNat_natCast]
    by_cases h2 : Nat.log2 n.toNat + 1 = 64
    · rw [h2]; rfl
    · have h3 : 2 ^ (Nat.log2 n.toNat + 1) ≤ 2 ^ 63 := Nat.pow_le_pow_right (by decide) (by omega)
      have h4 := Nat.two_pow_pos (Nat.log2 n.toNat + 1)
      have h5 : (1 : Int) * 2 ^ (Nat.log2 n.toNat + 1) = ((2 ^ (Nat.log2 n.toNat + 1) : Nat) : Int) := by simp
      rw [h5]
      omega
/-! ### Shifts that keep the sign, bit by bit -/
/-- what a number of z bits is, moved down by s, with ones coming in, or noughts. -/
def sarN (z a s : Nat) (b : Bool) : Nat := (a >>> s) ||| (if b then (2 ^ s - 1) <<< (z - s) else 0)
theorem sarN_bit {z a s : Nat} {b : Bool} (ha : a < 2 ^ z) (hs : s < z) {k : Nat} (hk : k < z) : (sarN z a s b).testBit k = if k + s < z then a.testBit (k + s) else b := by
  unfold sarN
  rw [Nat.testBit_or, Nat.testBit_shiftRight]
  cases b with
  | false =>
    simp only [Bool.false_eq_true, if_false, Nat.zero_testBit, Bool.or_false]
    split
    · rw [Nat.add_comm]
    · exact Nat.testBit_lt_two_pow (Nat.lt_of_lt_of_le ha (Nat.pow_le_pow_right (by decide) (by omega)))
  | true =>
    simp only [if_true, Nat.testBit_shiftLeft, Nat.testBit_two_pow_sub_one]
    split
    · rw [Nat.add_comm]; have : ¬ (k ≥ z - s) := by omega
      simp [this]
    · have h1 : k ≥ z - s := by omega
      have h2 : k - (z - s) < s := by omega
      simp [h1, h2]
theorem sarN_lt {z a s : Nat} {b : Bool} (ha : a < 2 ^ z) (hs : s < z) : sarN z a s b < 2 ^ z := by
  unfold sarN
  apply Nat.or_lt_two_pow
  · exact Nat.lt_of_le_of_lt (by rw [Nat.shiftRight_eq_div_pow]; exact Nat.div_le_self _ _) ha
  · split
    · rw [Nat.shiftLeft_eq]
      have h1 : 2 ^ z = 2 ^ s * 2 ^ (z - s) := by rw [← Nat.pow_add]; congr 1; omega
      rw [h1]
      exact Nat.mul_lt_mul_of_pos_right (by have := Nat.two_pow_pos s; omega) (Nat.two_pow_pos _)
    · exact Nat.two_pow_pos _
theorem sarN_add {z a s : Nat} {b : Bool} (ha : a < 2 ^ z) (hs : s < z) : sarN z a s b = a / 2 ^ s + (if b then (2 ^ s - 1) * 2 ^ (z - s) else 0) := by
  unfold sarN
  rw [Nat.shiftRight_eq_div_pow]
  cases b with
  | false => simp
  | true =>
    simp only [if_true]
    have h1 : 2 ^ z = 2 ^ s * 2 ^ (z - s) := by rw [← Nat.pow_add]; congr 1; omega
    have h2 : a / 2 ^ s < 2 ^ (z - s) := Nat.div_lt_of_lt_mul (by rw [← h1]; exact ha)
    rw [Nat.or_comm, ← Nat.shiftLeft_add_eq_or_of_lt h2, Nat.shiftLeft_eq, Nat.add_comm]
theorem mod_two_pow_succ' (x k : Nat) : x % 2 ^ (k + 1) = x % 2 ^ k + (if x.testBit k then 2 ^ k else 0) := by
  rw [Nat.mod_pow_succ, Nat.testBit_eq_decide_div_mod_eq]
  have : x / 2 ^ k % 2 = 0 ∨ x / 2 ^ k % 2 = 1 := by omega
  rcases this with h | h <;> simp [h]
theorem or_bit {x k : Nat} (h : x < 2 ^ k) : x ||| 2 ^ k = x + 2 ^ k := by
  rw [Nat.or_comm, show (2 : Nat) ^ k = 1 <<< k from by rw [Nat.shiftLeft_eq, Nat.one_mul], ← Nat.shiftLeft_add_eq_or_of_lt h, Nat.add_comm]
theorem topBit {z a : Nat} (ha : a < 2 ^ (z + 1)) : a.testBit z = decide (2 ^ z ≤ a) := by
  rw [Nat.testBit_eq_decide_div_mod_eq]
  have h1 : a / 2 ^ z < 2 := Nat.div_lt_of_lt_mul (by rw [Nat.pow_succ] at ha; exact ha)
  by_cases h : 2 ^ z ≤ a
  · have : 1 ≤ a / 2 ^ z := (Nat.one_le_div_iff (Nat.two_pow_pos _)).2 h
    have h2 : a / 2 ^ z = 1 := by omega
    simp [h2, h]
  · have h2 : a / 2 ^ z = 0 := Nat.div_eq_of_lt (by omega)
    simp [h2, h]
theorem sar_up {z a s : Nat} (_ha : a < 2 ^ z) (hs : s < z) : ((a : Int) - (2 : Int) ^ z) / 2 ^ s = ((a / 2 ^ s : Nat) : Int) - 2 ^ (z - s) := by
  have h1 : (2 : Int) ^ z = 2 ^ (z - s) * 2 ^ s := by rw [← Int.pow_add]; congr 1; omega
  rw [h1, Int.sub_eq_add_neg, ← Int.neg_mul, Int.add_mul_ediv_right _ _ (by exact Int.ne_of_gt (Int.pow_pos (by omega)))]
  simp [Int.sub_eq_add_neg]
theorem sar_dn {z s : Nat} (hs : s < z) : ((2 ^ s - 1) * 2 ^ (z - s) : Nat) = 2 ^ z - 2 ^ (z - s) := by
  rw [Nat.sub_mul, Nat.one_mul, ← Nat.pow_add]; congr 2; omega
theorem sar32 {a s : Nat} (ha : a < 2 ^ 32) (hs : s < 32) : IntKind.u32.wrap (sShr .i32 (IntKind.i32.wrap (a : Int)) (s : Int)) = ((sarN 32 a s (a.testBit 31) : Nat) : Int) := by
  rw [sarN_add ha hs, topBit (z := 31) ha]
  unfold sShr
  rw [Int.fdiv_eq_ediv_of_nonneg _ (by exact Int.le_of_lt (Int.pow_pos (by omega))), show min (s : Int).toNat IntKind.i32.bits = s from by simp only [IntKind.bits]; omega, wrapI32_eq, wrapU32_eq]
  have hd : a / 2 ^ s ≤ a := Nat.div_le_self _ _
  by_cases h : 2 ^ 31 ≤ a
  · rw [if_pos (by omega), show (a : Int) % 4294967296 - 4294967296 = (a : Int) - (2 : Int) ^ 32 from by omega, sar_up ha hs]
    simp only [h, decide_true, if_true]
    rw [sar_dn hs]
    have h3 : 2 ^ (32 - s) ≤ 2 ^ 32 := Nat.pow_le_pow_right (by decide) (by omega)
    have h4 : (2 : Int) ^ (32 - s) = ((2 ^ (32 - s) : Nat) : Int) := by simp
    have h5 : a / 2 ^ s < 2 ^ (32 - s) := Nat.div_lt_of_lt_mul (by rw [← Nat.pow_add]; rw [show s + (32 - s) = 32 by omega]; exact ha)
    rw [h4]
    have h6 := Nat.two_pow_pos (32 - s)
    generalize 2 ^ (32 - s) = q at *
    generalize a / 2 ^ s = d at *
    omega
  · rw [if_neg (by omega), show (a : Int) % 4294967296 = (a : Int) by omega]
    simp only [h, decide_false, Bool.false_eq_true, if_false]
    have : (a : Int) / 2 ^ s = ((a / 2 ^ s : Nat) : Int) := by simp
    rw [this]; generalize a / 2 ^ s = d at *; omega
theorem sar64 {a s : Nat} (ha : a < 2 ^ 64) (hs : s < 64) : IntKind.u64.wrap (sShr .i64 (IntKind.i64.wrap (a : Int)) (s : Int)) = ((sarN 64 a s (a.testBit 63) : Nat) : Int) := by
  rw [sarN_add ha hs, topBit (z := 63) ha]
  unfold sShr
  rw [Int.fdiv_eq_ediv_of_nonneg _ (by exact Int.le_of_lt (Int.pow_pos (by omega))), show min (s : Int).toNat IntKind.i64.bits = s from by simp only [IntKind.bits]; omega, wrapI64_eq, wrapU64_eq]
  have hd : a / 2 ^ s ≤ a := Nat.div_le_self _ _
  by_cases h : 2 ^ 63 ≤ a
  · rw [if_pos (by omega), show (a : Int) % 18446744073709551616 - 18446744073709551616 = (a : Int) - (2 : Int) ^ 64 from by omega, sar_up ha hs]
    simp only [h, decide_true, if_true]
    rw [sar_dn hs]
    have h3 : 2 ^ (64 - s) ≤ 2 ^ 64 := Nat.pow_le_pow_right (by decide) (by omega)
    have h4 : (2 : Int) ^ (64 - s) = ((2 ^ (64 - s) : Nat) : Int) := by simp
    have h5 : a / 2 ^ s < 2 ^ (64 - s) := Nat.div_lt_of_lt_mul (by rw [← Nat.pow_add]; rw [show s + (64 - s) = 64 by omega]; exact ha)
    rw [h4]
    have h6 := Nat.two_pow_pos (64 - s)
    generalize 2 ^ (64 - s) = q at *
    generalize a / 2 ^ s = d at *
    omega
  · rw [if_neg (by omega), show (a : Int) % 18446744073709551616 = (a : Int) by omega]
    simp only [h, decide_false, Bool.false_eq_true, if_false]
    have : (a : Int) / 2 ^ s = ((a / 2 ^ s : Nat) : Int) := by simp
    rw [this]; generalize a / 2 ^ s = d at *; omega
/-! ### What an operator makes of spans: as the document tells -/
def mostI (nw : Bool) : Int := if nw then 4294967295 else 18446744073709551615
structure SpOk (nw : Bool) (s : TSpan) : Prop where
  lo : 0 ≤ s.Lo
  le : s.Lo ≤ s.Hi
  hi : s.Hi ≤ mostI nw
theorem SpOk.u (nw : Bool) {s : TSpan} (h : SpOk nw s) : IU64 s.Lo ∧ IU64 s.Hi := by
  have h1 := h.lo; have h2 := h.le; have h3 := h.hi
  unfold mostI at h3
  split at h3 <;> omega
theorem and_low {x : Int} (h : IU64 x) : bAnd .u64 x 4294967295 = x % 4294967296 := by
  rw [bAnd64 h (by omega), show (4294967295 : Int).toNat = 2 ^ 32 - 1 from rfl, Nat.and_two_pow_sub_one_eq_mod]
  omega
theorem and_all {x : Int} (h : IU64 x) : bAnd .u64 x 18446744073709551615 = x := by
  rw [bAnd64 h (by omega), show (18446744073709551615 : Int).toNat = 2 ^ 64 - 1 from rfl, Nat.and_two_pow_sub_one_eq_mod]
  omega
theorem shr32 {x : Int} : sShr .u64 x 32 = x / 4294967296 := by rw [sShr64 (by omega)]; rfl
theorem cut_ok {s : TSpan} {nw : Bool} (h : IU64 s.Lo ∧ IU64 s.Hi) (hle : s.Lo ≤ s.Hi) : SpOk nw (span_cut s nw) := by
  cases nw with
  | false => exact ⟨h.1.1, hle, h.2.2⟩
  | true =>
    unfold span_cut
    simp only [Bool.not_true, Bool.false_eq_true, if_false, shr32, and_low h.1, and_low h.2]
    split
    · exact ⟨by decide, by decide, by decide⟩
    · rename_i hq
      have hq : s.Lo / 4294967296 = s.Hi / 4294967296 := by simpa using hq
      refine ⟨?_, ?_, ?_⟩
      · show 0 ≤ s.Lo % 4294967296; omega
      · show s.Lo % 4294967296 ≤ s.Hi % 4294967296; omega
      · show s.Hi % 4294967296 ≤ 4294967295; omega
theorem one_iff (s : TSpan) : span_one s = decide (s.Lo = s.Hi) := by
  show ((s.Lo == s.Lo) && (s.Hi == s.Lo)) = _
  by_cases h : s.Lo = s.Hi <;> simp [h]
  exact fun e => h e.symm
theorem both_iff (w : Twork) : span_work_both w = (decide (w.a.Lo = w.a.Hi) && decide (w.b.Lo = w.b.Hi)) := by
  show (span_one w.a && span_one w.b) = _
  rw [one_iff, one_iff]
/-- two spans, cut, at work. -/
def wk (nw : Bool) (a b : TSpan) : Twork := ⟨a, b, nw, mostI nw, if nw then 32 else 64⟩
theorem over_eq (nw : Bool) (a b : TSpan) : span_over nw a b = wk nw (span_cut a nw) (span_cut b nw) := by
  cases nw <;> rfl
theorem all_eq (nw : Bool) : span_All nw = ⟨0, mostI nw⟩ := by cases nw <;> rfl
theorem optF_must {α : Type} (c : Bool) (n : α) (f : Unit → α) : optF (span_must c) n f = if c = true then f () else n := by
  cases c <;> rfl
theorem mostI_u (nw : Bool) : IU64 (mostI nw) := by cases nw <;> decide
theorem mostI_or (nw : Bool) : mostI nw = 4294967295 ∨ mostI nw = 18446744073709551615 := by cases nw <;> simp [mostI]
theorem mul_cond {nw : Bool} {p q : Int} (hp : 0 ≤ p ∧ p ≤ mostI nw) (hq : 0 ≤ q ∧ q ≤ mostI nw) :
    (((Mul64 p q).1 == 0) && decide ((Mul64 p q).2 ≤ mostI nw)) = decide (p * q ≤ mostI nw) := by
  have hm := mostI_u nw
  rw [mulHi p q ⟨hp.1, by omega⟩ ⟨hq.1, by omega⟩, mulLo]
  have h0 : 0 ≤ p * q := Int.mul_nonneg hp.1 hq.1
  generalize p * q = z at *
  rw [Bool.eq_iff_iff]
  simp only [Bool.and_eq_true, beq_iff_eq, decide_eq_true_eq]
  omega
theorem shl_cond {nw : Bool} {x c : Int} (hx : 0 ≤ x) (hc : 0 ≤ c ∧ c ≤ 63) (h : x ≤ sShr .u64 (mostI nw) c) : sShl .u64 x c = x * 2 ^ c.toNat ∧ x * 2 ^ c.toNat ≤ mostI nw := by
  rw [sShr64 (by omega)] at h
  have hp : (0 : Int) < 2 ^ c.toNat := Int.pow_pos (by omega)
  have h1 : x * 2 ^ c.toNat ≤ mostI nw := (Int.le_ediv_iff_mul_le hp).1 h
  have h2 : 0 ≤ x * 2 ^ c.toNat := Int.mul_nonneg hx (Int.le_of_lt hp)
  have hm := mostI_u nw
  refine ⟨?_, h1⟩
  rw [sShl64 (by omega)]
  omega
theorem and_most {nw : Bool} {x : Int} (h : 0 ≤ x ∧ x ≤ mostI nw) : bAnd .u64 x (mostI nw) = x := by
  have hm := mostI_u nw
  cases nw with
  | false => exact and_all ⟨h.1, by have := h.2; omega⟩
  | true =>
    have h2 : x ≤ 4294967295 := h.2
    show bAnd .u64 x 4294967295 = x
    rw [and_low ⟨h.1, by omega⟩]; omega
theorem below_eq {nw : Bool} {a b : TSpan} {x : Int} (hx : 0 ≤ x ∧ x ≤ mostI nw) : span_work_below (wk nw a b) x = decide (mostI nw < 2 * x) := by
  cases nw with
  | true =>
    have h2 : x ≤ 4294967295 := hx.2
    have e : ((bAnd .u64 (sShr .u64 x 31) 1) == 1) = decide (mostI true < 2 * x) := by
      rw [sShr64 (by omega), show (2 : Int) ^ (31 : Int).toNat = 2147483648 from rfl, bAnd64 (by omega) (by omega)]
      rw [show (1 : Int).toNat = 1 from rfl, Nat.and_one_is_mod]
      show _ = decide (4294967295 < 2 * x)
      rw [Bool.eq_iff_iff, beq_iff_eq, decide_eq_true_eq]
      omega
    exact e
  | false =>
    have h2 : x ≤ 18446744073709551615 := hx.2
    have e : ((bAnd .u64 (sShr .u64 x 63) 1) == 1) = decide (mostI false < 2 * x) := by
      rw [sShr64 (by omega), show (2 : Int) ^ (63 : Int).toNat = 9223372036854775808 from rfl, bAnd64 (by omega) (by omega)]
      rw [show (1 : Int).toNat = 1 from rfl, Nat.and_one_is_mod]
      show _ = decide (18446744073709551615 < 2 * x)
      rw [Bool.eq_iff_iff, beq_iff_eq, decide_eq_true_eq]
      omega
    exact e
theorem mixed_eq {nw : Bool} {a b s : TSpan} (hs : SpOk nw s) : span_work_mixed (wk nw a b) s = (decide (mostI nw < 2 * s.Lo) != decide (mostI nw < 2 * s.Hi)) := by
  show (span_work_below (wk nw a b) s.Lo != span_work_below (wk nw a b) s.Hi) = _
  have h1 := hs.lo; have h2 := hs.le; have h3 := hs.hi
  rw [below_eq ⟨h1, by omega⟩, below_eq ⟨by omega, h3⟩]
/-- the rules, by their numbers. -/
def rulesOf (op : Int) (w : Twork) : Option TSpan :=
  if op = 1 then span_work_add w else if op = 2 then span_work_sub w else if op = 3 then span_work_mul w else if op = 4 then some (span_work_div w) else if op = 5 then some (span_work_mod w)
  else if op = 6 then some (span_work_and w) else if op = 7 then some (span_work_or w) else if op = 8 then some (span_work_xor w) else if op = 9 then span_work_shl w else if op = 10 then some (span_work_shr w)
  else if op = 11 then span_work_sar w else if op = 12 then some (span_work_mov w) else span_work_neg w
theorem isOp_iff (op : Int) : rule0_is op = decide (1 ≤ op ∧ op ≤ 13) := by
  unfold rule0_is
  rw [Bool.eq_iff_iff]
  simp only [Bool.or_eq_true, beq_iff_eq, decide_eq_true_eq]
  omega
theorem span_Do_eq (op : Int) (nw : Bool) (a b : TSpan) : span_Do op nw a b = if (1 ≤ op ∧ op ≤ 13) ∧ a.Lo ≤ a.Hi ∧ b.Lo ≤ b.Hi then (rulesOf op (wk nw (span_cut a nw) (span_cut b nw))).getD ⟨0, mostI nw⟩ else ⟨0, mostI nw⟩ := by
  rw [span_Do.eq_1]
  simp only [isOp_iff, span_Right, letF, all_eq, over_eq]
  by_cases h : (1 ≤ op ∧ op ≤ 13) ∧ a.Lo ≤ a.Hi ∧ b.Lo ≤ b.Hi
  · rw [if_pos h, if_neg (by simp [h])]
    unfold rulesOf
    generalize wk nw (span_cut a nw) (span_cut b nw) = w
    have hh : op = 1 ∨ op = 2 ∨ op = 3 ∨ op = 4 ∨ op = 5 ∨ op = 6 ∨ op = 7 ∨ op = 8 ∨ op = 9 ∨ op = 10 ∨ op = 11 ∨ op = 12 ∨ op = 13 := by omega
    rcases hh with rfl | rfl | rfl | rfl | rfl | rfl | rfl | rfl | rfl | rfl | rfl | rfl | rfl
    all_goals first | rfl | (simp only [show ∀ o : Option TSpan, optF o (⟨0, mostI nw⟩ : TSpan) (fun x => x) = o.getD ⟨0, mostI nw⟩ from fun o => by cases o <;> rfl]; rfl)
  · rw [if_neg h, if_pos]
    simp only [Bool.or_eq_true, Bool.not_eq_true', decide_eq_false_iff_not]
    omega
end Go.Y

/- What operators make of spans, in plain words. -/
namespace Go.Y
open Go.RowKit Go.V Go.X Go.Proofs
/-! ### What an operator makes of two numbers -/
theorem bv32 {x : Int} (h : IU32 x) : (BitVec.ofInt IntKind.u32.bits x).toNat = x.toNat := by
  rw [BitVec.toNat_ofInt]; simp only [IntKind.bits]; omega
theorem bAnd32 {x y : Int} (hx : IU32 x) (hy : IU32 y) : bAnd .u32 x y = ((x.toNat &&& y.toNat : Nat) : Int) := by
  unfold bAnd
  rw [BitVec.toNat_and, bv32 hx, bv32 hy, wrapU32_eq]
  have : x.toNat &&& y.toNat ≤ x.toNat := Nat.and_le_left
  omega
theorem lt32 {x : Int} (h : IU32 x) : x.toNat < 2 ^ 32 := by omega
theorem bOr32 {x y : Int} (hx : IU32 x) (hy : IU32 y) : bOr .u32 x y = ((x.toNat ||| y.toNat : Nat) : Int) := by
  unfold bOr
  rw [BitVec.toNat_or, bv32 hx, bv32 hy, wrapU32_eq]
  have := Nat.or_lt_two_pow (lt32 hx) (lt32 hy)
  omega
theorem bXor32 {x y : Int} (hx : IU32 x) (hy : IU32 y) : bXor .u32 x y = ((x.toNat ^^^ y.toNat : Nat) : Int) := by
  unfold bXor
  rw [BitVec.toNat_xor, bv32 hx, bv32 hy, wrapU32_eq]
  have := Nat.xor_lt_two_pow (lt32 hx) (lt32 hy)
  omega
theorem sShr32 {x y : Int} (hy : 0 ≤ y ∧ y ≤ 32) : sShr .u32 x y = x / 2 ^ y.toNat := by
  unfold sShr
  rw [Int.fdiv_eq_ediv_of_nonneg _ (by exact Int.le_of_lt (Int.pow_pos (by omega)))]
  congr 2
  simp only [IntKind.bits]; omega
theorem sShl32 {x y : Int} (hy : 0 ≤ y ∧ y ≤ 32) : sShl .u32 x y = (x * 2 ^ y.toNat) % 4294967296 := by
  unfold sShl
  rw [wrapU32_eq]
  congr 3
  simp only [IntKind.bits]; omega
def sizeN (nw : Bool) : Nat := if nw then 32 else 64
theorem most_pow (nw : Bool) : mostI nw + 1 = 2 ^ sizeN nw := by cases nw <;> decide
theorem sizeN_or (nw : Bool) : sizeN nw = 32 ∨ sizeN nw = 64 := by cases nw <;> simp [sizeN]
def sarI (nw : Bool) (p : Int) (s : Nat) : Int := ((sarN (sizeN nw) p.toNat s (decide (mostI nw < 2 * p)) : Nat) : Int)
def shN (nw : Bool) (q : Int) : Nat := (q % (sizeN nw : Int)).toNat
theorem shN_lt (nw : Bool) (q : Int) : shN nw q < sizeN nw := by unfold shN; rcases sizeN_or nw with h | h <;> rw [h] <;> omega
/-- an operator of two numbers that are cut; none: by nought. -/
def aluE (nw : Bool) (op p q : Int) : Option Int :=
  if op = 1 then some ((p + q) % (mostI nw + 1)) else if op = 2 then some ((p - q) % (mostI nw + 1)) else if op = 3 then some ((p * q) % (mostI nw + 1))
  else if op = 4 then (if q = 0 then none else some (p / q)) else if op = 5 then (if q = 0 then none else some (p % q))
  else if op = 6 then some ((p.toNat &&& q.toNat : Nat) : Int) else if op = 7 then some ((p.toNat ||| q.toNat : Nat) : Int) else if op = 8 then some ((p.toNat ^^^ q.toNat : Nat) : Int)
  else if op = 9 then some ((p * 2 ^ shN nw q) % (mostI nw + 1)) else if op = 10 then some (p / 2 ^ shN nw q) else if op = 11 then some (sarI nw p (shN nw q))
  else if op = 12 then some q else some ((0 - p) % (mostI nw + 1))
def cutN (nw : Bool) (p : Int) : Int := if nw then p % 4294967296 else p
theorem cutN_ok {nw : Bool} {p : Int} (h : IU64 p) : 0 ≤ cutN nw p ∧ cutN nw p ≤ mostI nw := by
  cases nw with
  | true => show 0 ≤ p % 4294967296 ∧ p % 4294967296 ≤ 4294967295; omega
  | false => exact h
def aluV (o : Option Int) : Int × Int := match o with | some v => (v, 0) | none => (0, 113)
theorem top_iff (nw : Bool) {a : Nat} (ha : a < 2 ^ sizeN nw) : a.testBit (sizeN nw - 1) = decide (mostI nw < 2 * (a : Int)) := by
  cases nw with
  | true => rw [show sizeN true - 1 = 31 from rfl, topBit (z := 31) ha, show mostI true = 4294967295 from rfl]; rw [Bool.eq_iff_iff, decide_eq_true_eq, decide_eq_true_eq]; omega
  | false => rw [show sizeN false - 1 = 63 from rfl, topBit (z := 63) ha, show mostI false = 18446744073709551615 from rfl]; rw [Bool.eq_iff_iff, decide_eq_true_eq, decide_eq_true_eq]; omega
theorem sh_nat (nw : Bool) {q : Int} (_h : 0 ≤ q) : q % (sizeN nw : Int) = ((shN nw q : Nat) : Int) := by unfold shN; rcases sizeN_or nw with h | h <;> rw [h] <;> omega
theorem alu_Do_eq {op : Int} (hop : 1 ≤ op ∧ op ≤ 13) {nw : Bool} {p q : Int} (hp : IU64 p) (hq : IU64 q) : alu_Do op nw p q = aluV (aluE nw op (cutN nw p) (cutN nw q)) := by
  have hh : op = 1 ∨ op = 2 ∨ op = 3 ∨ op = 4 ∨ op = 5 ∨ op = 6 ∨ op = 7 ∨ op = 8 ∨ op = 9 ∨ op = 10 ∨ op = 11 ∨ op = 12 ∨ op = 13 := by omega
  cases nw with
  | true =>
    have hx : IU32 (p % 4294967296) := by omega
    have hy : IU32 (q % 4294967296) := by omega
    show alu_do_u32 op 32 (IntKind.u32.wrap p) (IntKind.u32.wrap q) = aluV (aluE true op (p % 4294967296) (q % 4294967296))
    rw [wrapU32_eq, wrapU32_eq]
    generalize p % 4294967296 = x at *
    generalize q % 4294967296 = y at *
    have hy32 : y % 32 = ((shN true y : Nat) : Int) := sh_nat true hy.1
    have hlt : shN true y < 32 := shN_lt true y
    have hd : 0 ≤ x / y ∧ x / y ≤ x := ⟨Int.ediv_nonneg hx.1 hy.1, Int.ediv_le_self _ hx.1⟩
    rcases hh with rfl | rfl | rfl | rfl | rfl | rfl | rfl | rfl | rfl | rfl | rfl | rfl | rfl
    · show (IntKind.u32.wrap (x + y), (0 : Int)) = ((x + y) % (4294967295 + 1), 0); rw [wrapU32_eq]; rfl
    · show (IntKind.u32.wrap (x - y), (0 : Int)) = ((x - y) % (4294967295 + 1), 0); rw [wrapU32_eq]; rfl
    · show (IntKind.u32.wrap (x * y), (0 : Int)) = ((x * y) % (4294967295 + 1), 0); rw [wrapU32_eq]; rfl
    · by_cases h0 : y = 0
      · subst h0; rfl
      · show (if (y == 0) = true then ((0 : Int), (113 : Int)) else (IntKind.u32.wrap (x.tdiv y), 0)) = aluV (if y = 0 then none else some (x / y))
        rw [if_neg (by simpa using h0), if_neg h0, wrapU32_eq, Int.tdiv_eq_ediv_of_nonneg hx.1]
        show _ = (x / y, (0 : Int))
        congr 1; omega
    · by_cases h0 : y = 0
      · subst h0; rfl
      · show (if (y == 0) = true then ((0 : Int), (113 : Int)) else (x.tmod y, 0)) = aluV (if y = 0 then none else some (x % y))
        rw [if_neg (by simpa using h0), if_neg h0, Int.tmod_eq_emod_of_nonneg hx.1]; rfl
    · show (bAnd .u32 x y, (0 : Int)) = (((x.toNat &&& y.toNat : Nat) : Int), 0); rw [bAnd32 hx hy]
    · show (bOr .u32 x y, (0 : Int)) = (((x.toNat ||| y.toNat : Nat) : Int), 0); rw [bOr32 hx hy]
    · show (bXor .u32 x y, (0 : Int)) = (((x.toNat ^^^ y.toNat : Nat) : Int), 0); rw [bXor32 hx hy]
    · show (sShl .u32 x (y.tmod 32), (0 : Int)) = ((x * 2 ^ shN true y) % (4294967295 + 1), 0); rw [Int.tmod_eq_emod_of_nonneg hy.1, hy32, sShl32 (by omega)]; rfl
    · show (sShr .u32 x (y.tmod 32), (0 : Int)) = (x / 2 ^ shN true y, 0); rw [Int.tmod_eq_emod_of_nonneg hy.1, hy32, sShr32 (by omega)]; rfl
    · show (IntKind.u32.wrap (sShr .i32 (IntKind.i32.wrap x) (y.tmod 32)), (0 : Int)) = (sarI true x (shN true y), 0)
      obtain ⟨a, rfl⟩ := Int.eq_ofNat_of_zero_le hx.1
      rw [Int.tmod_eq_emod_of_nonneg hy.1, hy32, sar32 (by omega) hlt]
      unfold sarI
      rw [← top_iff true (a := a) (show a < 2 ^ 32 by omega)]; rfl
    · rfl
    · show (IntKind.u32.wrap (0 - x), (0 : Int)) = ((0 - x) % (4294967295 + 1), 0); rw [wrapU32_eq]; rfl
  | false =>
    show alu_do_u64 op 64 p q = aluV (aluE false op p q)
    have hx := hp; have hy := hq
    have hy64 : q % 64 = ((shN false q : Nat) : Int) := sh_nat false hy.1
    have hlt : shN false q < 64 := shN_lt false q
    have hd : 0 ≤ p / q ∧ p / q ≤ p := ⟨Int.ediv_nonneg hx.1 hy.1, Int.ediv_le_self _ hx.1⟩
    rcases hh with rfl | rfl | rfl | rfl | rfl | rfl | rfl | rfl | rfl | rfl | rfl | rfl | rfl
    · show (IntKind.u64.wrap (p + q), (0 : Int)) = ((p + q) % (18446744073709551615 + 1), 0); rw [wrapU64_eq]; rfl
    · show (IntKind.u64.wrap (p - q), (0 : Int)) = ((p - q) % (18446744073709551615 + 1), 0); rw [wrapU64_eq]; rfl
    · show (IntKind.u64.wrap (p * q), (0 : Int)) = ((p * q) % (18446744073709551615 + 1), 0); rw [wrapU64_eq]; rfl
    · by_cases h0 : q = 0
      · subst h0; rfl
      · show (if (q == 0) = true then ((0 : Int), (113 : Int)) else (IntKind.u64.wrap (p.tdiv q), 0)) = aluV (if q = 0 then none else some (p / q))
        rw [if_neg (by simpa using h0), if_neg h0, wrapU64_eq, Int.tdiv_eq_ediv_of_nonneg hx.1]
        show _ = (p / q, (0 : Int))
        congr 1; omega
    · by_cases h0 : q = 0
      · subst h0; rfl
      · show (if (q == 0) = true then ((0 : Int), (113 : Int)) else (p.tmod q, 0)) = aluV (if q = 0 then none else some (p % q))
        rw [if_neg (by simpa using h0), if_neg h0, Int.tmod_eq_emod_of_nonneg hx.1]; rfl
    · show (bAnd .u64 p q, (0 : Int)) = (((p.toNat &&& q.toNat : Nat) : Int), 0); rw [bAnd64 hx hy]
    · show (bOr .u64 p q, (0 : Int)) = (((p.toNat ||| q.toNat : Nat) : Int), 0); rw [bOr64 hx hy]
    · show (bXor .u64 p q, (0 : Int)) = (((p.toNat ^^^ q.toNat : Nat) : Int), 0); rw [bXor64 hx hy]
    · show (sShl .u64 p (q.tmod 64), (0 : Int)) = ((p * 2 ^ shN false q) % (18446744073709551615 + 1), 0); rw [Int.tmod_eq_emod_of_nonneg hy.1, hy64, sShl64 (by omega)]; rfl
    · show (sShr .u64 p (q.tmod 64), (0 : Int)) = (p / 2 ^ shN false q, 0); rw [Int.tmod_eq_emod_of_nonneg hy.1, hy64, sShr64 (by omega)]; rfl
    · show (IntKind.u64.wrap (sShr .i64 (IntKind.i64.wrap p) (q.tmod 64)), (0 : Int)) = (sarI false p (shN false q), 0)
      obtain ⟨a, rfl⟩ := Int.eq_ofNat_of_zero_le hx.1
      rw [Int.tmod_eq_emod_of_nonneg hy.1, hy64, sar64 (by omega) hlt]
      unfold sarI
      rw [← top_iff false (a := a) (show a < 2 ^ 64 by omega)]; rfl
    · rfl
    · show (IntKind.u64.wrap (0 - p), (0 : Int)) = ((0 - p) % (18446744073709551615 + 1), 0); rw [wrapU64_eq]; rfl
/-! ### What an operator makes of two spans that are cut -/
def fillI (p q : Int) : Int := fillN ((p.toNat ||| q.toNat : Nat) : Int)
def rulesE (nw : Bool) (op : Int) (u v : TSpan) : Option TSpan :=
  if op = 1 then (if v.Hi ≤ mostI nw - u.Hi ∨ v.Lo > mostI nw - u.Lo then some ⟨(u.Lo + v.Lo) % (mostI nw + 1), (u.Hi + v.Hi) % (mostI nw + 1)⟩ else none)
  else if op = 2 then (if u.Lo ≥ v.Hi ∨ u.Hi < v.Lo then some ⟨(u.Lo - v.Hi) % (mostI nw + 1), (u.Hi - v.Lo) % (mostI nw + 1)⟩ else none)
  else if op = 3 then (if u.Hi * v.Hi ≤ mostI nw then some ⟨u.Lo * v.Lo, u.Hi * v.Hi⟩ else none)
  else if op = 4 then some ⟨u.Lo / max v.Hi 1, u.Hi / max v.Lo 1⟩
  else if op = 5 then some (if u.Hi < max v.Lo 1 then u else ⟨0, min u.Hi (max v.Hi 1 - 1)⟩)
  else if op = 6 then some (if u.Lo = u.Hi ∧ v.Lo = v.Hi then ⟨((u.Lo.toNat &&& v.Lo.toNat : Nat) : Int), ((u.Lo.toNat &&& v.Lo.toNat : Nat) : Int)⟩ else ⟨0, min u.Hi v.Hi⟩)
  else if op = 7 then some (if u.Lo = u.Hi ∧ v.Lo = v.Hi then ⟨((u.Lo.toNat ||| v.Lo.toNat : Nat) : Int), ((u.Lo.toNat ||| v.Lo.toNat : Nat) : Int)⟩ else ⟨max u.Lo v.Lo, fillI u.Hi v.Hi⟩)
  else if op = 8 then some (if u.Lo = u.Hi ∧ v.Lo = v.Hi then ⟨((u.Lo.toNat ^^^ v.Lo.toNat : Nat) : Int), ((u.Lo.toNat ^^^ v.Lo.toNat : Nat) : Int)⟩ else ⟨0, fillI u.Hi v.Hi⟩)
  else if op = 9 then (if v.Lo = v.Hi ∧ u.Hi * 2 ^ shN nw v.Lo ≤ mostI nw then some ⟨u.Lo * 2 ^ shN nw v.Lo, u.Hi * 2 ^ shN nw v.Lo⟩ else none)
  else if op = 10 then some (if v.Lo = v.Hi then ⟨u.Lo / 2 ^ shN nw v.Lo, u.Hi / 2 ^ shN nw v.Lo⟩ else if v.Hi ≥ sizeN nw then ⟨0, u.Hi⟩ else ⟨u.Lo / 2 ^ v.Hi.toNat, u.Hi / 2 ^ v.Lo.toNat⟩)
  else if op = 11 then (if v.Lo = v.Hi ∧ (mostI nw < 2 * u.Lo ↔ mostI nw < 2 * u.Hi) then some ⟨sarI nw u.Lo (shN nw v.Lo), sarI nw u.Hi (shN nw v.Lo)⟩ else none)
  else if op = 12 then some v
  else (if u.Hi = 0 then some u else if u.Lo > 0 then some ⟨(0 - u.Hi) % (mostI nw + 1), (0 - u.Lo) % (mostI nw + 1)⟩ else none)
theorem optF_ite {α β : Type} (c : Prop) [Decidable c] (x : α) (f : α → Option β) : optF (if c then some x else none) none f = if c then f x else none := by split <;> rfl
theorem mustI {α : Type} {c : Bool} {p : Prop} [Decidable p] (h : c = decide p) (x y : α) (hxy : p → x = y) : (optF (span_must c) none fun _ => some x) = if p then some y else none := by
  rw [optF_must, h]
  by_cases hp : p
  · simp [hp, hxy hp]
  · simp [hp]
theorem ends_mod {nw : Bool} (a b : TSpan) (x y : Int) : span_work_ends (wk nw a b) (IntKind.u64.wrap x) (IntKind.u64.wrap y) = ⟨x % (mostI nw + 1), y % (mostI nw + 1)⟩ := by
  have key : ∀ x : Int, bAnd .u64 (IntKind.u64.wrap x) (mostI nw) = x % (mostI nw + 1) := by
    intro x
    cases nw with
    | true => show bAnd .u64 _ 4294967295 = x % 4294967296; rw [and_low (wrapU64 x), wrapU64_eq]; omega
    | false => show bAnd .u64 _ 18446744073709551615 = x % 18446744073709551616; rw [and_all (wrapU64 x), wrapU64_eq]
  show (⟨_, _⟩ : TSpan) = _
  rw [show (wk nw a b).most = mostI nw from rfl, key, key]
theorem fill_or {nw : Bool} {p q : Int} (hp : 0 ≤ p ∧ p ≤ mostI nw) (hq : 0 ≤ q ∧ q ≤ mostI nw) : span_fill (bOr .u64 p q) = fillI p q := by
  have hm := mostI_u nw
  have hw : IU64 (bOr .u64 p q) := wrapU64 _
  rw [fill_eq hw, bOr64 ⟨hp.1, by omega⟩ ⟨hq.1, by omega⟩]; rfl
theorem sar_val {nw : Bool} {x y : Int} (hx : 0 ≤ x ∧ x ≤ mostI nw) (hy : 0 ≤ y ∧ y ≤ mostI nw) : (alu_Do 11 nw x y).1 = sarI nw x (shN nw y) := by
  have hm := mostI_u nw
  have e : ∀ z : Int, (0 ≤ z ∧ z ≤ mostI nw) → cutN nw z = z := by
    intro z hz
    cases nw with
    | true => show z % 4294967296 = z; have : mostI true = 4294967295 := rfl; omega
    | false => rfl
  rw [alu_Do_eq (by omega) ⟨hx.1, by omega⟩ ⟨hy.1, by omega⟩, e x hx, e y hy]; rfl
theorem rulesE_eq {op : Int} (hop : 1 ≤ op ∧ op ≤ 13) {nw : Bool} {u v : TSpan} (hu : SpOk nw u) (hv : SpOk nw v) : rulesOf op (wk nw u v) = rulesE nw op u v := by
  have hu1 := hu.lo; have hu2 := hu.le; have hu3 := hu.hi
  have hv1 := hv.lo; have hv2 := hv.le; have hv3 := hv.hi
  have hm := mostI_u nw
  have iu := hu.u; have iv := hv.u
  have hh : op = 1 ∨ op = 2 ∨ op = 3 ∨ op = 4 ∨ op = 5 ∨ op = 6 ∨ op = 7 ∨ op = 8 ∨ op = 9 ∨ op = 10 ∨ op = 11 ∨ op = 12 ∨ op = 13 := by omega
  rcases hh with rfl | rfl | rfl | rfl | rfl | rfl | rfl | rfl | rfl | rfl | rfl | rfl | rfl
  · refine mustI (p := v.Hi ≤ mostI nw - u.Hi ∨ v.Lo > mostI nw - u.Lo) ?_ _ _ fun _ => ends_mod u v _ _
    show (decide (v.Hi ≤ IntKind.u64.wrap (mostI nw - u.Hi)) || decide (v.Lo > IntKind.u64.wrap (mostI nw - u.Lo))) = _
    rw [wrapU64_eq, wrapU64_eq, Int.emod_eq_of_lt (by omega) (by omega), Int.emod_eq_of_lt (by omega) (by omega)]
    simp
  · refine mustI (p := u.Lo ≥ v.Hi ∨ u.Hi < v.Lo) ?_ _ _ fun _ => ends_mod u v _ _
    show (decide (u.Lo ≥ v.Hi) || decide (u.Hi < v.Lo)) = _
    simp
  · refine mustI (p := u.Hi * v.Hi ≤ mostI nw) ?_ _ _ fun h => ?_
    · show (((Mul64 u.Hi v.Hi).1 == 0) && decide ((Mul64 u.Hi v.Hi).2 ≤ mostI nw)) = _
      exact mul_cond ⟨by omega, hu3⟩ ⟨by omega, hv3⟩
    · show (⟨IntKind.u64.wrap (u.Lo * v.Lo), (Mul64 u.Hi v.Hi).2⟩ : TSpan) = _
      have h1 : 0 ≤ u.Lo * v.Lo := Int.mul_nonneg hu1 hv1
      have h2 : u.Lo * v.Lo ≤ u.Hi * v.Hi := Int.mul_le_mul hu2 hv2 hv1 (by omega)
      rw [mulLo, wrapU64_eq, Int.emod_eq_of_lt h1 (by omega), Int.emod_eq_of_lt (by omega) (by omega)]
  · show some (⟨IntKind.u64.wrap (u.Lo.tdiv (gMax v.Hi 1)), IntKind.u64.wrap (u.Hi.tdiv (gMax v.Lo 1))⟩ : TSpan) = some ⟨u.Lo / max v.Hi 1, u.Hi / max v.Lo 1⟩
    have d : ∀ x y : Int, 0 ≤ x → x ≤ mostI nw → IntKind.u64.wrap (x.tdiv (gMax y 1)) = x / max y 1 := by
      intro x y h1 h2
      rw [gMax_eq, Int.tdiv_eq_ediv_of_nonneg h1, wrapU64_eq]
      have h3 : 0 ≤ x / max y 1 := Int.ediv_nonneg h1 (by omega)
      have h4 : x / max y 1 ≤ x := Int.ediv_le_self _ h1
      exact Int.emod_eq_of_lt h3 (by omega)
    rw [d _ _ hu1 (by omega), d _ _ (by omega) hu3]
  · show some (if decide (u.Hi < gMax v.Lo 1) = true then u else (⟨0, gMin u.Hi (IntKind.u64.wrap (gMax v.Hi 1 - 1))⟩ : TSpan)) = some (if u.Hi < max v.Lo 1 then u else ⟨0, min u.Hi (max v.Hi 1 - 1)⟩)
    rw [gMax_eq, gMax_eq, gMin_eq, wrapU64_eq, Int.emod_eq_of_lt (by omega) (by omega)]
    simp only [decide_eq_true_eq]
  · show some (span_work_and (wk nw u v)) = some (if u.Lo = u.Hi ∧ v.Lo = v.Hi then _ else _)
    unfold span_work_and letF
    simp only [both_iff]
    by_cases h1 : u.Lo = u.Hi <;> by_cases h2 : v.Lo = v.Hi <;> simp [h1, h2, wk, span_Of, gMin_eq]
    rw [bAnd64 iu.2 iv.2]
  · show some (span_work_or (wk nw u v)) = some (if u.Lo = u.Hi ∧ v.Lo = v.Hi then _ else _)
    unfold span_work_or letF
    simp only [both_iff]
    have hf := fill_or (nw := nw) ⟨Int.le_trans hu1 hu2, hu3⟩ ⟨Int.le_trans hv1 hv2, hv3⟩
    by_cases h1 : u.Lo = u.Hi <;> by_cases h2 : v.Lo = v.Hi <;> simp [h1, h2, wk, span_Of, gMax_eq, hf]
    rw [bOr64 iu.2 iv.2]
  · show some (span_work_xor (wk nw u v)) = some (if u.Lo = u.Hi ∧ v.Lo = v.Hi then _ else _)
    unfold span_work_xor letF
    simp only [both_iff]
    have hf := fill_or (nw := nw) ⟨Int.le_trans hu1 hu2, hu3⟩ ⟨Int.le_trans hv1 hv2, hv3⟩
    by_cases h1 : u.Lo = u.Hi <;> by_cases h2 : v.Lo = v.Hi <;> simp [h1, h2, wk, span_Of, hf]
    rw [bXor64 iu.2 iv.2]
  · have hsz : (if nw then (32 : Int) else 64) = (sizeN nw : Int) := by cases nw <;> rfl
    have hc : v.Lo.tmod (if nw then (32 : Int) else 64) = ((shN nw v.Lo : Nat) : Int) := by rw [Int.tmod_eq_emod_of_nonneg hv1, hsz, sh_nat nw hv1]
    have hlt := shN_lt nw v.Lo
    have hs64 : sizeN nw ≤ 64 := by have := sizeN_or nw; omega
    have hpow : (0 : Int) < 2 ^ shN nw v.Lo := Int.pow_pos (by omega)
    have hle : ∀ x : Int, x ≤ sShr .u64 (mostI nw) ((shN nw v.Lo : Nat) : Int) ↔ x * 2 ^ shN nw v.Lo ≤ mostI nw := by
      intro x; rw [sShr64 (by omega), Int.toNat_natCast]; exact Int.le_ediv_iff_mul_le hpow
    refine mustI (p := v.Lo = v.Hi ∧ u.Hi * 2 ^ shN nw v.Lo ≤ mostI nw) ?_ _ _ fun h => ?_
    · show (span_one v && decide (u.Hi ≤ sShr .u64 (mostI nw) (v.Lo.tmod (if nw then (32 : Int) else 64)))) = _
      rw [one_iff, hc, Bool.eq_iff_iff]
      simp only [Bool.and_eq_true, decide_eq_true_eq, hle]
    · show (⟨sShl .u64 u.Lo (v.Lo.tmod (if nw then (32 : Int) else 64)), sShl .u64 u.Hi (v.Lo.tmod (if nw then (32 : Int) else 64))⟩ : TSpan) = _
      rw [hc]
      have h3 := shl_cond (x := u.Hi) (c := ((shN nw v.Lo : Nat) : Int)) (by omega) (by omega) ((hle _).2 h.2)
      have h4 := shl_cond (x := u.Lo) (c := ((shN nw v.Lo : Nat) : Int)) hu1 (by omega) (Int.le_trans hu2 ((hle _).2 h.2))
      rw [h3.1, h4.1, Int.toNat_natCast]
  · have hsz : (if nw then (32 : Int) else 64) = (sizeN nw : Int) := by cases nw <;> rfl
    have hc : v.Lo.tmod (if nw then (32 : Int) else 64) = ((shN nw v.Lo : Nat) : Int) := by rw [Int.tmod_eq_emod_of_nonneg hv1, hsz, sh_nat nw hv1]
    have hlt := shN_lt nw v.Lo
    have hs64 : sizeN nw ≤ 64 := by have := sizeN_or nw; omega
    show some (if span_one v then (⟨sShr .u64 u.Lo (v.Hi.tmod (if nw then 32 else 64)), sShr .u64 u.Hi (v.Lo.tmod (if nw then 32 else 64))⟩ : TSpan) else if decide (v.Hi ≥ (if nw then (32 : Int) else 64)) then ⟨0, u.Hi⟩ else ⟨sShr .u64 u.Lo v.Hi, sShr .u64 u.Hi v.Lo⟩) = some (if v.Lo = v.Hi then _ else if v.Hi ≥ sizeN nw then _ else _)
    rw [one_iff]
    by_cases h1 : v.Lo = v.Hi
    · simp only [h1, decide_true, if_true]
      rw [h1] at hc hlt
      rw [hc, sShr64 (by omega), sShr64 (by omega), Int.toNat_natCast]
    · simp only [h1, decide_false, Bool.false_eq_true, if_false]
      rw [hsz]
      by_cases h2 : v.Hi ≥ (sizeN nw : Int)
      · simp only [h2, decide_true, if_true]
      · simp only [h2, decide_false, Bool.false_eq_true, if_false]
        rw [sShr64 (by omega), sShr64 (by omega)]
  · refine mustI (p := v.Lo = v.Hi ∧ (mostI nw < 2 * u.Lo ↔ mostI nw < 2 * u.Hi)) ?_ _ _ fun _ => ?_
    · show (span_one v && !(span_work_mixed (wk nw u v) u)) = _
      rw [one_iff, mixed_eq hu]
      by_cases h1 : v.Lo = v.Hi <;> by_cases h2 : mostI nw < 2 * u.Lo <;> by_cases h3 : mostI nw < 2 * u.Hi <;> simp [h1, h2, h3]
    · show (⟨(alu_Do 11 nw u.Lo v.Lo).1, (alu_Do 11 nw u.Hi v.Lo).1⟩ : TSpan) = _
      rw [sar_val ⟨hu1, by omega⟩ ⟨hv1, by omega⟩, sar_val ⟨by omega, hu3⟩ ⟨hv1, by omega⟩]
  · rfl
  · show span_work_neg (wk nw u v) = if u.Hi = 0 then some u else if u.Lo > 0 then _ else none
    unfold span_work_neg
    by_cases h1 : u.Hi = 0
    · have h2 : ((wk nw u v).a.Hi == 0) = true := by simpa [wk] using h1
      rw [h2, if_pos h1]; rfl
    · have h2 : ((wk nw u v).a.Hi == 0) = false := by simpa [wk] using h1
      rw [h2, if_neg h1]
      exact mustI (p := u.Lo > 0) rfl _ _ fun _ => ends_mod u v _ _
/-! ### It has all that comes of their numbers; of spans within others it is within -/
end Go.Y

/- What the document says an operator makes of spans. -/
namespace Go.Y
open Go.RowKit Go.V Go.X Go.Proofs
theorem bit_eq {a : Nat} {k : Nat} (ha : a < 2 ^ 64) (hk : k < 64) : ref01_bit (a : Int) (k : Int) = a.testBit k := by
  unfold ref01_bit
  rw [show IntKind.u64.wrap (k : Int) = (k : Int) from by rw [wrapU64_eq]; omega, sShr64 (by omega)]
  have e : (a : Int) / 2 ^ (k : Int).toNat = ((a >>> k : Nat) : Int) := by rw [Nat.shiftRight_eq_div_pow]; simp
  have hle : a >>> k ≤ a := by rw [Nat.shiftRight_eq_div_pow]; exact Nat.div_le_self _ _
  rw [e, Nat.testBit]
  generalize a >>> k = q at *
  rw [bAnd64 (by omega) (by omega), Int.toNat_natCast, show (1 : Int).toNat = 1 from rfl, Nat.and_comm]
  have h2 : 1 &&& q = 0 ∨ 1 &&& q = 1 := by
    rw [Nat.and_comm, Nat.and_one_is_mod]; omega
  rcases h2 with h | h <;> rw [h] <;> rfl
theorem moved_step {z k : Nat} {T : Nat} (hz : z ≤ 64) (hk : k < z) (hT : T.testBit k = true) : bOr .u64 ((T % 2 ^ k : Nat) : Int) (sShl .u64 1 (IntKind.u64.wrap (k : Int))) = ((T % 2 ^ (k + 1) : Nat) : Int) := by
  have h1 : 2 ^ k ≤ 2 ^ 63 := Nat.pow_le_pow_right (by decide) (by omega)
  have h2 : T % 2 ^ k < 2 ^ k := Nat.mod_lt _ (Nat.two_pow_pos _)
  rw [show IntKind.u64.wrap (k : Int) = (k : Int) from by rw [wrapU64_eq]; omega, sShl64 (by omega), Int.toNat_natCast]
  have e : (1 : Int) * 2 ^ k % 18446744073709551616 = ((2 ^ k : Nat) : Int) := by
    rw [Int.one_mul, show (2 : Int) ^ k = ((2 ^ k : Nat) : Int) from by simp]; omega
  rw [e, bOr64 (by omega) (by omega), Int.toNat_natCast, Int.toNat_natCast, or_bit h2, mod_two_pow_succ', hT]
  rfl
theorem moved_loop {z a s : Nat} {b : Bool} (ha : a < 2 ^ z) (hs : s < z) (hz : z ≤ 64) : ∀ (f k : Nat), k ≤ z → z - k < f →
    ref01_moved_L0 (a : Int) (0 - (s : Int)) (z : Int) b f ((sarN z a s b % 2 ^ k : Nat) : Int) k = ((sarN z a s b : Nat) : Int) := by
  intro f
  induction f with
  | zero => intro k _ h; omega
  | succ f ih =>
    intro k hk hf
    rw [ref01_moved_L0]
    have ha64 : a < 2 ^ 64 := Nat.lt_of_lt_of_le ha (Nat.pow_le_pow_right (by decide) hz)
    by_cases hkz : k < z
    · rw [if_pos (by simpa using hkz)]
      have hbit := sarN_bit (b := b) ha hs hkz
      have hgo : ∀ c : Bool, (sarN z a s b).testBit k = c → (if c = true then ref01_moved_L0 (a : Int) (0 - (s : Int)) (z : Int) b f (bOr .u64 ((sarN z a s b % 2 ^ k : Nat) : Int) (sShl .u64 (1 : Int) (IntKind.u64.wrap ((k : Nat) : Int)))) (k + 1) else ref01_moved_L0 (a : Int) (0 - (s : Int)) (z : Int) b f ((sarN z a s b % 2 ^ k : Nat) : Int) (k + 1)) = ((sarN z a s b : Nat) : Int) := by
        intro c hc
        cases c with
        | true => rw [if_pos rfl, moved_step hz hkz hc]; exact ih (k + 1) (by omega) (by omega)
        | false =>
          rw [if_neg (by simp)]
          have := ih (k + 1) (by omega) (by omega)
          rw [mod_two_pow_succ', hc] at this
          simpa using this
      by_cases hin : k + s < z
      · rw [if_pos (by simp; omega)]
        show (if ref01_bit (a : Int) (((k : Nat) : Int) - (0 - (s : Int))) = true then _ else _) = _
        rw [show ((k : Nat) : Int) - (0 - (s : Int)) = ((k + s : Nat) : Int) by omega, bit_eq ha64 (by omega)]
        rw [if_pos hin] at hbit
        exact hgo _ hbit
      · rw [if_neg (by simp; omega)]
        rw [if_neg hin] at hbit
        exact hgo _ hbit
    · rw [if_neg (by simpa using hkz)]
      have : k = z := by omega
      subst this
      rw [Nat.mod_eq_of_lt (sarN_lt ha hs)]
theorem moved_eq {z a s : Nat} {b : Bool} (ha : a < 2 ^ z) (hs : s < z) (hz : z ≤ 64) : ref01_moved (a : Int) (0 - (s : Int)) (z : Int) b = ((sarN z a s b : Nat) : Int) := by
  unfold ref01_moved
  have := moved_loop (b := b) ha hs hz (z + 1) 0 (by omega) (by omega)
  simpa [Nat.mod_one] using this
theorem cut_same (s : TSpan) (nw : Bool) : ref11_cut s nw = span_cut s nw := by
  unfold ref11_cut span_cut
  rfl
theorem single_iff (s : TSpan) : ref11_single s = decide (s.Lo = s.Hi) := by
  unfold ref11_single
  by_cases h : s.Lo = s.Hi <;> simp [h]
theorem rall_eq (nw : Bool) : ref11_All nw = ⟨0, mostI nw⟩ := by cases nw <;> rfl
theorem j0_eq (o : Int) (nw : Bool) (a b : TSpan) (c : Bool) (x y : Int) : ref11_Do_J0 o nw a b c x y = if c = true then ⟨x, y⟩ else ⟨0, mostI nw⟩ := by
  rw [← rall_eq]
  cases c <;> rfl
theorem mul_cond2 {nw : Bool} {p q : Int} (hq : 0 < q ∧ q ≤ mostI nw) :
    decide (p ≤ IntKind.u64.wrap ((mostI nw).tdiv q)) = decide (p * q ≤ mostI nw) := by
  have hm := mostI_u nw
  rw [Int.tdiv_eq_ediv_of_nonneg hm.1, wrapU64_eq]
  have h1 : 0 ≤ mostI nw / q := Int.ediv_nonneg hm.1 (by omega)
  have h2 : mostI nw / q ≤ mostI nw := Int.ediv_le_self _ hm.1
  rw [show mostI nw / q % 18446744073709551616 = mostI nw / q from by omega]
  rw [Bool.eq_iff_iff, decide_eq_true_eq, decide_eq_true_eq]
  exact Int.le_ediv_iff_mul_le hq.1
theorem alu_sar {nw : Bool} {x y : Int} (hx : 0 ≤ x ∧ x ≤ mostI nw) (hy : IU64 y) : (alu_Do 11 nw x y).1 = (ref01_Do_11 nw x (y.tmod (if nw then 32 else 64))).1 := by
  rw [Int.tmod_eq_emod_of_nonneg hy.1]
  obtain ⟨a, rfl⟩ := Int.eq_ofNat_of_zero_le hx.1
  cases nw with
  | true =>
    have ha : a < 2 ^ 32 := by have h := hx.2; simp only [mostI, if_true] at h; omega
    show (alu_do_u32_11 (IntKind.u32.wrap (a : Int)) (IntKind.u32.wrap y) 32) = bAnd .u64 (ref01_moved (bAnd .u64 (a : Int) 4294967295) (0 - ((bAnd .u64 (y % 32) 4294967295).tmod 32)) 32 (ref01_bit (bAnd .u64 (a : Int) 4294967295) 31)) 4294967295
    unfold alu_do_u32_11
    rw [and_low (x := (a : Int)) ⟨by omega, by omega⟩, and_low (x := y % 32) ⟨by omega, by omega⟩, show (a : Int) % 4294967296 = (a : Int) by omega, show y % 32 % 4294967296 = y % 32 by omega]
    rw [show IntKind.u32.wrap (a : Int) = (a : Int) from by rw [wrapU32_eq]; omega]
    rw [Int.tmod_eq_emod_of_nonneg (wrapU32 y).1, show IntKind.u32.wrap y % 32 = y % 32 from by rw [wrapU32_eq]; omega, Int.tmod_eq_emod_of_nonneg (by omega), show y % 32 % 32 = y % 32 by omega]
    obtain ⟨s, hs⟩ := Int.eq_ofNat_of_zero_le (show 0 ≤ y % 32 by omega)
    have hs32 : s < 32 := by omega
    rw [hs, sar32 ha hs32]
    have hb := bit_eq (a := a) (k := 31) (by omega) (by omega)
    have hm := moved_eq (b := a.testBit 31) ha hs32 (by omega)
    rw [show (((31 : Nat) : Int)) = 31 from rfl] at hb
    rw [show (((32 : Nat) : Int)) = 32 from rfl] at hm
    rw [hb, hm]
    have hlt := sarN_lt (b := a.testBit 31) ha hs32
    rw [and_low ⟨by omega, by omega⟩]
    omega
  | false =>
    have ha : a < 2 ^ 64 := by have h := hx.2; simp only [mostI, Bool.false_eq_true, if_false] at h; omega
    show (alu_do_u64_11 (a : Int) y 64) = ref01_moved (a : Int) (0 - ((y % 64).tmod 64)) 64 (ref01_bit (a : Int) 63)
    unfold alu_do_u64_11
    rw [Int.tmod_eq_emod_of_nonneg hy.1, Int.tmod_eq_emod_of_nonneg (by omega), show y % 64 % 64 = y % 64 by omega]
    obtain ⟨s, hs⟩ := Int.eq_ofNat_of_zero_le (show 0 ≤ y % 64 by omega)
    have hs64 : s < 64 := by omega
    rw [hs, sar64 ha hs64]
    have hb := bit_eq (a := a) (k := 63) (by omega) (by omega)
    have hm := moved_eq (b := a.testBit 63) ha hs64 (by omega)
    rw [show (((63 : Nat) : Int)) = 63 from rfl] at hb
    rw [show (((64 : Nat) : Int)) = 64 from rfl] at hm
    rw [hb, hm]
theorem rbelow_eq {nw : Bool} {x : Int} (hx : 0 ≤ x ∧ x ≤ mostI nw) : ref11_below x nw = decide (mostI nw < 2 * x) := by
  have h := below_eq (nw := nw) (a := ⟨0, 0⟩) (b := ⟨0, 0⟩) hx
  cases nw with
  | true => exact h
  | false =>
    have h2 : x ≤ 18446744073709551615 := hx.2
    show (sShr .u64 x 63 == 1) = _
    rw [sShr64 (by omega), show (2 : Int) ^ (63 : Int).toNat = 9223372036854775808 from rfl]
    show _ = decide (18446744073709551615 < 2 * x)
    rw [Bool.eq_iff_iff, beq_iff_eq, decide_eq_true_eq]
    omega
theorem ref11_Do_eq (op : Int) (nw : Bool) (a b : TSpan) : ref11_Do op nw a b = if (1 ≤ op ∧ op ≤ 13) ∧ a.Lo ≤ a.Hi ∧ b.Lo ≤ b.Hi then
    (let u := span_cut a nw; let v := span_cut b nw
     let r := if op = 1 ∨ op = 2 ∨ op = 3 ∨ op = 13 then ref11_sums op (mostI nw) u v else if op = 4 ∨ op = 5 then (ref11_parts op u v, true) else if op = 6 ∨ op = 7 ∨ op = 8 then (ref11_logic op u v, true) else if op = 9 ∨ op = 10 ∨ op = 11 then ref11_shifts op nw u v else (v, true)
     if r.2 = true then r.1 else ⟨0, mostI nw⟩) else ⟨0, mostI nw⟩ := by
  rw [ref11_Do.eq_1]
  by_cases h : (1 ≤ op ∧ op ≤ 13) ∧ a.Lo ≤ a.Hi ∧ b.Lo ≤ b.Hi
  · rw [if_pos h, if_neg (by simp [ref11_Right, h])]
    have hm : ref11_most nw = mostI nw := by cases nw <;> rfl
    have hh : op = 1 ∨ op = 2 ∨ op = 3 ∨ op = 4 ∨ op = 5 ∨ op = 6 ∨ op = 7 ∨ op = 8 ∨ op = 9 ∨ op = 10 ∨ op = 11 ∨ op = 12 ∨ op = 13 := by omega
    simp only [ref11_Do_J1, ref11_Do_J2, ref11_Do_J3, ref11_Do_J4, j0_eq, cut_same, hm, letF]
    rcases hh with rfl | rfl | rfl | rfl | rfl | rfl | rfl | rfl | rfl | rfl | rfl | rfl | rfl
    all_goals rfl
  · rw [if_neg h, if_pos]
    · exact rall_eq nw
    · simp only [ref11_Right, Bool.or_eq_true, Bool.not_eq_true', decide_eq_false_iff_not, decide_eq_true_eq]
      omega
theorem Do_same {op : Int} {nw : Bool} {a b : TSpan} (ha : IU64 a.Lo ∧ IU64 a.Hi) (hb : IU64 b.Lo ∧ IU64 b.Hi) : span_Do op nw a b = ref11_Do op nw a b := by
  rw [span_Do_eq, ref11_Do_eq]
  by_cases h : (1 ≤ op ∧ op ≤ 13) ∧ a.Lo ≤ a.Hi ∧ b.Lo ≤ b.Hi
  · rw [if_pos h, if_pos h]
    have hu := cut_ok (nw := nw) ha h.2.1
    have hv := cut_ok (nw := nw) hb h.2.2
    simp only
    generalize span_cut a nw = u at *
    generalize span_cut b nw = v at *
    have hu1 := hu.lo; have hu2 := hu.le; have hu3 := hu.hi
    have hv1 := hv.lo; have hv2 := hv.le; have hv3 := hv.hi
    have hm := mostI_u nw
    have hh : op = 1 ∨ op = 2 ∨ op = 3 ∨ op = 4 ∨ op = 5 ∨ op = 6 ∨ op = 7 ∨ op = 8 ∨ op = 9 ∨ op = 10 ∨ op = 11 ∨ op = 12 ∨ op = 13 := by omega
    have key : ∀ (c : Bool) (x y : TSpan), (c = true → x = y) → (optF (span_must c) none fun _ => some x).getD (⟨0, mostI nw⟩ : TSpan) = if c = true then y else ⟨0, mostI nw⟩ := by
      intro c x y hxy
      rw [optF_must]
      cases c with
      | true => simp [hxy]
      | false => simp
    rcases hh with rfl | rfl | rfl | rfl | rfl | rfl | rfl | rfl | rfl | rfl | rfl | rfl | rfl
    · exact key _ _ _ fun _ => rfl
    · show (optF (span_must (decide (u.Lo ≥ v.Hi) || decide (u.Hi < v.Lo))) none fun _ => some _).getD _ = _
      refine (key _ _ (ref11_sums 2 (mostI nw) u v).1 fun _ => ?_).trans ?_
      · unfold ref11_sums; simp only [beq_self_eq_true, if_true]; rw [if_neg (by decide)]; split <;> rfl
      · unfold ref11_sums; simp only [beq_self_eq_true, if_true]
        by_cases h1 : u.Lo ≥ v.Hi <;> simp [h1]
    · show (optF (span_must (((Mul64 u.Hi v.Hi).1 == 0) && decide ((Mul64 u.Hi v.Hi).2 ≤ mostI nw))) none fun _ => some _).getD _ = _
      rw [mul_cond ⟨by omega, hu3⟩ ⟨by omega, hv3⟩]
      refine (key _ _ (ref11_sums 3 (mostI nw) u v).1 fun _ => ?_).trans ?_
      · unfold ref11_sums; simp only [beq_self_eq_true, if_true]; rw [if_neg (by decide), if_neg (by decide), mulLo, ← wrapU64_eq]; split <;> rfl
      · have e : (ref11_sums 3 (mostI nw) u v).2 = decide (u.Hi * v.Hi ≤ mostI nw) := by
          unfold ref11_sums; simp only [beq_self_eq_true, if_true]; rw [if_neg (by decide), if_neg (by decide)]
          by_cases h0 : v.Hi = 0
          · simp [h0]; exact hm.1
          · rw [if_neg (by simpa using h0), mul_cond2 ⟨by omega, hv3⟩]
        rw [← e]; rfl
    · rfl
    · rfl
    · show span_work_and _ = ref11_logic 6 u v
      unfold span_work_and ref11_logic letF
      simp only [both_iff, single_iff]
      by_cases h1 : u.Lo = u.Hi <;> by_cases h2 : v.Lo = v.Hi <;> simp [h1, h2, wk] <;> rfl
    · show span_work_or _ = ref11_logic 7 u v
      unfold span_work_or ref11_logic letF
      simp only [both_iff, single_iff]
      have hf : span_fill (bOr .u64 u.Hi v.Hi) = fillN (bOr .u64 u.Hi v.Hi) := fill_eq (wrapU64 _)
      by_cases h1 : u.Lo = u.Hi <;> by_cases h2 : v.Lo = v.Hi <;> simp [h1, h2, wk, hf] <;> rfl
    · show span_work_xor _ = ref11_logic 8 u v
      unfold span_work_xor ref11_logic letF
      simp only [both_iff, single_iff]
      have hf : span_fill (bOr .u64 u.Hi v.Hi) = fillN (bOr .u64 u.Hi v.Hi) := fill_eq (wrapU64 _)
      by_cases h1 : u.Lo = u.Hi <;> by_cases h2 : v.Lo = v.Hi <;> simp [h1, h2, wk, hf] <;> rfl
    · have hc : 0 ≤ v.Lo % (if nw then 32 else 64) ∧ v.Lo % (if nw then 32 else 64) ≤ 63 := by cases nw <;> simp <;> omega
      have hr : ref11_shifts 9 nw u v = if !ref11_single v then ((⟨0, 0⟩ : TSpan), false) else ((⟨bAnd .u64 (sShl .u64 u.Lo (v.Lo.tmod (if nw then 32 else 64))) (mostI nw), bAnd .u64 (sShl .u64 u.Hi (v.Lo.tmod (if nw then 32 else 64))) (mostI nw)⟩ : TSpan), decide (u.Hi ≤ sShr .u64 (mostI nw) (v.Lo.tmod (if nw then 32 else 64)))) := by cases nw <;> rfl
      show (optF (span_must (span_one v && decide (u.Hi ≤ sShr .u64 (mostI nw) (v.Lo.tmod (if nw then 32 else 64))))) none fun _ => some (⟨sShl .u64 u.Lo (v.Lo.tmod (if nw then 32 else 64)), sShl .u64 u.Hi (v.Lo.tmod (if nw then 32 else 64))⟩ : TSpan)).getD _ = if (ref11_shifts 9 nw u v).2 = true then (ref11_shifts 9 nw u v).1 else _
      rw [hr, one_iff, single_iff, Int.tmod_eq_emod_of_nonneg hv1]
      generalize v.Lo % (if nw then 32 else 64) = c at *
      by_cases h1 : v.Lo = v.Hi
      · simp only [h1, decide_true, Bool.true_and, Bool.not_true, Bool.false_eq_true, if_false]
        refine key _ _ _ fun h2 => ?_
        have h3 := shl_cond (x := u.Hi) (by omega) hc (of_decide_eq_true h2)
        have h4 := shl_cond (x := u.Lo) hu1 hc (Int.le_trans hu2 (of_decide_eq_true h2))
        have hp : (0 : Int) < 2 ^ c.toNat := Int.pow_pos (by omega)
        rw [h3.1, h4.1, and_most ⟨Int.mul_nonneg (by omega) (Int.le_of_lt hp), h3.2⟩, and_most ⟨Int.mul_nonneg (by omega) (Int.le_of_lt hp), h4.2⟩]
      · simp [h1, optF_must]
    · have hr : ref11_shifts 10 nw u v = if ref11_single v then ((⟨sShr .u64 u.Lo (v.Lo.tmod (if nw then 32 else 64)), sShr .u64 u.Hi (v.Lo.tmod (if nw then 32 else 64))⟩ : TSpan), true) else if decide (v.Hi < (if nw then 32 else 64)) then ((⟨sShr .u64 u.Lo v.Hi, sShr .u64 u.Hi v.Lo⟩ : TSpan), true) else ((⟨0, u.Hi⟩ : TSpan), true) := by cases nw <;> rfl
      show (if span_one v then (⟨sShr .u64 u.Lo (v.Hi.tmod (if nw then 32 else 64)), sShr .u64 u.Hi (v.Lo.tmod (if nw then 32 else 64))⟩ : TSpan) else if decide (v.Hi ≥ (if nw then 32 else 64)) then ⟨0, u.Hi⟩ else ⟨sShr .u64 u.Lo v.Hi, sShr .u64 u.Hi v.Lo⟩) = if (ref11_shifts 10 nw u v).2 = true then (ref11_shifts 10 nw u v).1 else _
      rw [hr, one_iff, single_iff]
      by_cases h1 : v.Lo = v.Hi
      · simp [h1]
      · simp only [h1, decide_false, Bool.false_eq_true, if_false]
        by_cases h2 : v.Hi < (if nw then 32 else 64)
        · simp [h2, Int.not_le.2 h2]
        · simp [h2, Int.not_lt.1 h2]
    · have hr : ref11_shifts 11 nw u v = if !ref11_single v then ((⟨0, 0⟩ : TSpan), false) else ((⟨(ref01_Do_11 nw u.Lo (v.Lo.tmod (if nw then 32 else 64))).1, (ref01_Do_11 nw u.Hi (v.Lo.tmod (if nw then 32 else 64))).1⟩ : TSpan), ref11_below u.Lo nw == ref11_below u.Hi nw) := by cases nw <;> rfl
      show (optF (span_must (span_one v && !(span_work_mixed (wk nw u v) u))) none fun _ => some (⟨(alu_Do 11 nw u.Lo v.Lo).1, (alu_Do 11 nw u.Hi v.Lo).1⟩ : TSpan)).getD _ = if (ref11_shifts 11 nw u v).2 = true then (ref11_shifts 11 nw u v).1 else _
      rw [hr, one_iff, single_iff, mixed_eq hu, rbelow_eq (nw := nw) ⟨hu1, by omega⟩, rbelow_eq (nw := nw) ⟨by omega, hu3⟩, alu_sar ⟨hu1, by omega⟩ ⟨hv1, by omega⟩, alu_sar ⟨by omega, hu3⟩ ⟨hv1, by omega⟩]
      by_cases h1 : v.Lo = v.Hi
      · simp only [h1, decide_true, Bool.true_and, Bool.not_true, Bool.false_eq_true, if_false]
        refine (key _ _ _ fun _ => rfl).trans ?_
        simp [bne]
      · simp [h1, optF_must]
    · rfl
    · show (span_work_neg (wk nw u v)).getD _ = if (ref11_sums 13 (mostI nw) u v).2 = true then (ref11_sums 13 (mostI nw) u v).1 else _
      have hr : ref11_sums 13 (mostI nw) u v = if u.Hi == 0 then (u, true) else ((⟨bAnd .u64 (IntKind.u64.wrap (0 - u.Hi)) (mostI nw), bAnd .u64 (IntKind.u64.wrap (0 - u.Lo)) (mostI nw)⟩ : TSpan), decide (u.Lo > 0)) := rfl
      rw [hr]
      unfold span_work_neg
      by_cases h1 : u.Hi = 0
      · simp [h1, wk]
      · have h2 : (u.Hi == 0) = false := by simpa using h1
        have h3 : ((wk nw u v).a.Hi == 0) = false := h2
        rw [h2, h3]
        exact key _ _ _ fun _ => rfl
  · rw [if_neg h, if_neg h]
end Go.Y

/- What questions leave of spans, in plain words. -/
namespace Go.Y
open Go.RowKit Go.V Go.X Go.Proofs
/-! ### Questions -/
def negB (nw : Bool) (p : Int) : Bool := decide (mostI nw < 2 * p)
def sgn (nw : Bool) (p : Int) : Int := if mostI nw < 2 * p then p - (mostI nw + 1) else p
def isE (nw : Bool) (op p q : Int) : Bool :=
  if op = 17 then decide (p = q) else if op = 18 then decide (p ≠ q) else if op = 19 then decide (p > q) else if op = 20 then decide (p ≥ q) else if op = 21 then decide (p < q) else if op = 22 then decide (p ≤ q)
  else if op = 23 then decide (sgn nw p > sgn nw q) else if op = 24 then decide (sgn nw p ≥ sgn nw q) else if op = 25 then decide (sgn nw p < sgn nw q) else if op = 26 then decide (sgn nw p ≤ sgn nw q) else decide (p.toNat &&& q.toNat ≠ 0)
def woE (s n : TSpan) : TSpan := if s.Lo = s.Hi ∨ n.Lo ≠ n.Hi then s else ⟨if s.Lo = n.Lo then s.Lo + 1 else s.Lo, if s.Hi = n.Lo then s.Hi - 1 else s.Hi⟩
def gtE (u v : TSpan) : Option (TSpan × TSpan) := if u.Hi > v.Lo then some (⟨max u.Lo (v.Lo + 1), u.Hi⟩, ⟨v.Lo, min v.Hi (u.Hi - 1)⟩) else none
def geE (u v : TSpan) : Option (TSpan × TSpan) := if u.Hi ≥ v.Lo then some (⟨max u.Lo v.Lo, u.Hi⟩, ⟨v.Lo, min v.Hi u.Hi⟩) else none
def swapE (o : Option (TSpan × TSpan)) : Option (TSpan × TSpan) := o.map fun x => (x.2, x.1)
def plainE (op : Int) (u v : TSpan) : Option (TSpan × TSpan) :=
  if op = 17 then (if max u.Lo v.Lo ≤ min u.Hi v.Hi then some (⟨max u.Lo v.Lo, min u.Hi v.Hi⟩, ⟨max u.Lo v.Lo, min u.Hi v.Hi⟩) else none)
  else if op = 18 then (if u.Lo = u.Hi ∧ v.Lo = v.Hi ∧ u.Lo = v.Lo then none else some (woE u v, woE v u))
  else if op = 19 then gtE u v else if op = 20 then geE u v else if op = 21 then swapE (gtE v u) else swapE (geE v u)
def signedE (nw : Bool) (op : Int) (u v : TSpan) : Option (TSpan × TSpan) :=
  if negB nw u.Lo ≠ negB nw u.Hi ∨ negB nw v.Lo ≠ negB nw v.Hi then some (u, v)
  else if negB nw u.Lo = negB nw v.Lo then plainE (op - 4) u v
  else if (op = 23 ∨ op = 24) ↔ negB nw v.Lo = true then some (u, v) else none
def setE (yes : Bool) (u v : TSpan) : Option (TSpan × TSpan) :=
  if yes = false then (if u.Lo = u.Hi ∧ v.Lo = v.Hi ∧ u.Lo.toNat &&& v.Lo.toNat ≠ 0 then none else some (u, v))
  else if u.Hi > 0 ∧ v.Hi > 0 ∧ ¬ (u.Lo = u.Hi ∧ v.Lo = v.Hi ∧ u.Lo.toNat &&& v.Lo.toNat = 0) then some (⟨max u.Lo 1, u.Hi⟩, ⟨max v.Lo 1, v.Hi⟩) else none
def oppE (op : Int) : Int := if op = 17 then 18 else if op = 18 then 17 else if op = 19 then 22 else if op = 20 then 21 else if op = 21 then 20 else if op = 22 then 19 else if op = 23 then 26 else if op = 24 then 25 else if op = 25 then 24 else 23
def askE (nw : Bool) (op : Int) (yes : Bool) (u v : TSpan) : Option (TSpan × TSpan) :=
  if op = 27 then setE yes u v else if (if yes = true then op else oppE op) ≥ 23 then signedE nw (if yes = true then op else oppE op) u v else plainE (if yes = true then op else oppE op) u v
theorem without_eq {nw : Bool} {s n : TSpan} (hs : SpOk nw s) : span_without s n = woE s n := by
  have h1 := hs.lo; have h2 := hs.le; have h3 := hs.hi; have hm := mostI_u nw
  unfold span_without span_without_J0 woE letF
  simp only [one_iff, beq_iff_eq]
  by_cases c1 : s.Lo = s.Hi
  · simp [c1]
  · by_cases c2 : n.Lo = n.Hi
    · simp only [c1, c2, decide_false, decide_true, Bool.not_true, Bool.or_self, Bool.false_eq_true, if_false, ne_eq, not_true_eq_false, or_self]
      rw [wrapU64_eq, Int.emod_eq_of_lt (a := s.Lo + 1) (by omega) (by omega), wrapU64_eq, Int.emod_eq_of_lt (a := s.Hi - 1) (by omega) (by omega)]
      split <;> split <;> rfl
    · simp [c1, c2]
theorem plain19_eq {nw : Bool} {u v : TSpan} (hu : SpOk nw u) (hv : SpOk nw v) : span_work_plain_19 (wk nw u v) = gtE u v := by
  have h1 := hu.lo; have h2 := hu.le; have h3 := hu.hi; have g1 := hv.lo; have g2 := hv.le; have g3 := hv.hi; have hm := mostI_u nw
  refine mustI (p := u.Hi > v.Lo) rfl _ _ fun h => ?_
  show ((⟨gMax u.Lo (IntKind.u64.wrap (v.Lo + 1)), u.Hi⟩ : TSpan), (⟨v.Lo, gMin v.Hi (IntKind.u64.wrap (u.Hi - 1))⟩ : TSpan)) = _
  rw [gMax_eq, gMin_eq, wrapU64_eq, Int.emod_eq_of_lt (by omega) (by omega), wrapU64_eq, Int.emod_eq_of_lt (by omega) (by omega)]
theorem plain20_eq {nw : Bool} {u v : TSpan} : span_work_plain_20 (wk nw u v) = geE u v := by
  refine mustI (p := u.Hi ≥ v.Lo) rfl _ _ fun h => ?_
  show ((⟨gMax u.Lo v.Lo, u.Hi⟩ : TSpan), (⟨v.Lo, gMin v.Hi u.Hi⟩ : TSpan)) = _
  rw [gMax_eq, gMin_eq]
theorem optF_swap (o : Option (TSpan × TSpan)) : optF o none (fun x => some (x.2, x.1)) = swapE o := by cases o <;> rfl
theorem optF_id (o : Option (TSpan × TSpan)) : optF o none (fun x => some (x.1, x.2)) = o := by cases o <;> rfl
theorem plain_eq {op : Int} (hop : 17 ≤ op ∧ op ≤ 22) {nw : Bool} {u v : TSpan} (hu : SpOk nw u) (hv : SpOk nw v) : span_work_plain (wk nw u v) op = plainE op u v := by
  have h1 := hu.lo; have h2 := hu.le; have h3 := hu.hi; have g1 := hv.lo; have g2 := hv.le; have g3 := hv.hi; have hm := mostI_u nw
  have hh : op = 17 ∨ op = 18 ∨ op = 19 ∨ op = 20 ∨ op = 21 ∨ op = 22 := by omega
  rcases hh with rfl | rfl | rfl | rfl | rfl | rfl
  · show optF (span_must (span_Meet u v).2) none (fun _ => some ((span_Meet u v).1, (span_Meet u v).1)) = if max u.Lo v.Lo ≤ min u.Hi v.Hi then _ else none
    have e : span_Meet u v = if max u.Lo v.Lo ≤ min u.Hi v.Hi then (⟨max u.Lo v.Lo, min u.Hi v.Hi⟩, true) else (⟨0, 0⟩, false) := by
      unfold span_Meet span_Right letF
      rw [gMax_eq, gMin_eq]
      by_cases hc : max u.Lo v.Lo ≤ min u.Hi v.Hi
      · rw [if_pos hc, decide_eq_true hc]; rfl
      · rw [if_neg hc, decide_eq_false hc]; rfl
    rw [e]
    by_cases hc : max u.Lo v.Lo ≤ min u.Hi v.Hi
    · rw [if_pos hc, if_pos hc]; rfl
    · rw [if_neg hc, if_neg hc]; rfl
  · refine (mustI (p := ¬ (u.Lo = u.Hi ∧ v.Lo = v.Hi ∧ u.Lo = v.Lo)) ?_ _ (woE u v, woE v u) fun _ => ?_).trans ?_
    · show ((!(span_work_both (wk nw u v))) || (!((u.Lo == v.Lo) && (u.Hi == v.Hi)))) = _
      have bq : ∀ a b : Int, (a == b) = decide (a = b) := fun a b => by rw [Bool.eq_iff_iff]; simp
      rw [both_iff]
      by_cases c1 : u.Lo = u.Hi <;> by_cases c2 : v.Lo = v.Hi <;> simp [c1, c2, wk, bq]
    · show (span_without u v, span_without v u) = _
      rw [without_eq hu, without_eq hv]
    · show _ = if u.Lo = u.Hi ∧ v.Lo = v.Hi ∧ u.Lo = v.Lo then none else _
      by_cases hc : u.Lo = u.Hi ∧ v.Lo = v.Hi ∧ u.Lo = v.Lo
      · rw [if_pos hc, if_neg (fun h => h hc)]
      · rw [if_neg hc, if_pos hc]
  · exact plain19_eq hu hv
  · exact plain20_eq
  · show optF (span_work_plain_19 (wk nw v u)) none (fun x => some (x.2, x.1)) = swapE (gtE v u)
    rw [plain19_eq hv hu, optF_swap]
  · show optF (span_work_plain_20 (wk nw v u)) none (fun x => some (x.2, x.1)) = swapE (geE v u)
    rw [plain20_eq, optF_swap]
theorem signed_eq {op : Int} (hop : 23 ≤ op ∧ op ≤ 26) {nw : Bool} {u v : TSpan} (hu : SpOk nw u) (hv : SpOk nw v) : span_work_signed (wk nw u v) op = signedE nw op u v := by
  have h1 := hu.lo; have h2 := hu.le; have h3 := hu.hi; have g1 := hv.lo; have g2 := hv.le; have g3 := hv.hi
  show (if (span_work_mixed (wk nw u v) u || span_work_mixed (wk nw u v) v) = true then some (u, v) else if (span_work_below (wk nw u v) u.Lo == span_work_below (wk nw u v) v.Lo) = true then optF (span_work_plain (wk nw u v) (IntKind.u8.wrap (IntKind.u8.wrap (op - 23) + 19))) none (fun x => some (x.1, x.2)) else optF (span_must (((op == 23) || (op == 24)) == span_work_below (wk nw u v) v.Lo)) none (fun _ => some (u, v))) = _
  rw [mixed_eq hu, mixed_eq hv, below_eq (nw := nw) (a := u) (b := v) (x := u.Lo) ⟨h1, by omega⟩, below_eq (nw := nw) (a := u) (b := v) (x := v.Lo) ⟨g1, by omega⟩]
  rw [show IntKind.u8.wrap (IntKind.u8.wrap (op - 23) + 19) = op - 4 from by rw [wrapU8_eq, wrapU8_eq]; omega, plain_eq (by omega) hu hv, optF_id]
  unfold signedE
  rw [show decide (mostI nw < 2 * u.Lo) = negB nw u.Lo from rfl, show decide (mostI nw < 2 * u.Hi) = negB nw u.Hi from rfl, show decide (mostI nw < 2 * v.Lo) = negB nw v.Lo from rfl, show decide (mostI nw < 2 * v.Hi) = negB nw v.Hi from rfl]
  simp only [Bool.or_eq_true, bne_iff_ne, beq_iff_eq]
  split
  · rfl
  · split
    · rfl
    · rw [optF_must]
      have : ((((op == 23) || (op == 24)) == negB nw v.Lo) = true) ↔ ((op = 23 ∨ op = 24) ↔ negB nw v.Lo = true) := by
        rw [beq_iff_eq, Bool.eq_iff_iff]; simp
      by_cases hc : (op = 23 ∨ op = 24) ↔ negB nw v.Lo = true
      · rw [if_pos hc, if_pos (this.2 hc)]
      · rw [if_neg hc, if_neg (fun h => hc (this.1 h))]
theorem set_eq {nw yes : Bool} {u v : TSpan} (hu : SpOk nw u) (hv : SpOk nw v) : span_work_set (wk nw u v) yes = setE yes u v := by
  have iu := hu.u; have iv := hv.u
  have hb : bAnd .u64 u.Lo v.Lo = ((u.Lo.toNat &&& v.Lo.toNat : Nat) : Int) := bAnd64 iu.1 iv.1
  cases yes with
  | false =>
    refine (mustI (p := ¬ (u.Lo = u.Hi ∧ v.Lo = v.Hi ∧ u.Lo.toNat &&& v.Lo.toNat ≠ 0)) ?_ _ (u, v) fun _ => rfl).trans ?_
    · show ((!(span_work_both (wk nw u v))) || (!(bAnd .u64 u.Lo v.Lo != 0))) = _
      rw [both_iff, hb]
      have hz : (((u.Lo.toNat &&& v.Lo.toNat : Nat) : Int) != 0) = decide (u.Lo.toNat &&& v.Lo.toNat ≠ 0) := by rw [Bool.eq_iff_iff, bne_iff_ne, decide_eq_true_eq]; omega
      rw [hz]
      by_cases c1 : u.Lo = u.Hi <;> by_cases c2 : v.Lo = v.Hi <;> simp [c1, c2, wk]
    · show _ = if u.Lo = u.Hi ∧ v.Lo = v.Hi ∧ u.Lo.toNat &&& v.Lo.toNat ≠ 0 then none else some (u, v)
      by_cases hc : u.Lo = u.Hi ∧ v.Lo = v.Hi ∧ u.Lo.toNat &&& v.Lo.toNat ≠ 0
      · rw [if_pos hc, if_neg (fun h => h hc)]
      · rw [if_neg hc, if_pos hc]
  | true =>
    refine mustI (p := u.Hi > 0 ∧ v.Hi > 0 ∧ ¬ (u.Lo = u.Hi ∧ v.Lo = v.Hi ∧ u.Lo.toNat &&& v.Lo.toNat = 0)) ?_ _ _ fun _ => ?_
    · show ((decide (u.Hi > 0) && decide (v.Hi > 0)) && ((!(span_work_both (wk nw u v))) || (bAnd .u64 u.Lo v.Lo != 0))) = _
      rw [both_iff, hb]
      have hz : (((u.Lo.toNat &&& v.Lo.toNat : Nat) : Int) != 0) = decide (u.Lo.toNat &&& v.Lo.toNat ≠ 0) := by rw [Bool.eq_iff_iff, bne_iff_ne, decide_eq_true_eq]; omega
      rw [hz]
      by_cases c1 : u.Lo = u.Hi <;> by_cases c2 : v.Lo = v.Hi <;> simp [c1, c2, wk, Bool.and_assoc]
    · show ((⟨gMax u.Lo 1, u.Hi⟩ : TSpan), (⟨gMax v.Lo 1, v.Hi⟩ : TSpan)) = _
      rw [gMax_eq, gMax_eq]
theorem ask_eq {op : Int} (hop : 17 ≤ op ∧ op ≤ 27) {nw yes : Bool} {u v : TSpan} (hu : SpOk nw u) (hv : SpOk nw v) : span_work_ask (wk nw u v) op yes = askE nw op yes u v := by
  have hJ : ∀ q : Int, 17 ≤ q ∧ q ≤ 26 → span_work_ask_J0 (wk nw u v) op yes q = if q ≥ 23 then signedE nw q u v else plainE q u v := by
    intro q hq
    unfold span_work_ask_J0
    rw [optF_id, optF_id]
    by_cases h : q ≥ 23
    · rw [if_pos h, if_pos (by simpa using h), signed_eq (by omega) hu hv]
    · rw [if_neg h, if_neg (by simpa using h), plain_eq (by omega) hu hv]
  have hh : op = 17 ∨ op = 18 ∨ op = 19 ∨ op = 20 ∨ op = 21 ∨ op = 22 ∨ op = 23 ∨ op = 24 ∨ op = 25 ∨ op = 26 ∨ op = 27 := by omega
  rcases hh with rfl | rfl | rfl | rfl | rfl | rfl | rfl | rfl | rfl | rfl | rfl
  case inr.inr.inr.inr.inr.inr.inr.inr.inr.inr =>
    show optF (span_work_set (wk nw u v) yes) none (fun x => some (x.1, x.2)) = setE yes u v
    rw [optF_id, set_eq hu hv]
  · cases yes with
    | true => exact hJ 17 (by omega)
    | false => exact hJ 18 (by omega)
  · cases yes with
    | true => exact hJ 18 (by omega)
    | false => exact hJ 17 (by omega)
  · cases yes with
    | true => exact hJ 19 (by omega)
    | false => exact hJ 22 (by omega)
  · cases yes with
    | true => exact hJ 20 (by omega)
    | false => exact hJ 21 (by omega)
  · cases yes with
    | true => exact hJ 21 (by omega)
    | false => exact hJ 20 (by omega)
  · cases yes with
    | true => exact hJ 22 (by omega)
    | false => exact hJ 19 (by omega)
  · cases yes with
    | true => exact hJ 23 (by omega)
    | false => exact hJ 26 (by omega)
  · cases yes with
    | true => exact hJ 24 (by omega)
    | false => exact hJ 25 (by omega)
  · cases yes with
    | true => exact hJ 25 (by omega)
    | false => exact hJ 24 (by omega)
  · cases yes with
    | true => exact hJ 26 (by omega)
    | false => exact hJ 23 (by omega)
theorem span_If_eq {op : Int} (hop : 17 ≤ op ∧ op ≤ 27) {nw yes : Bool} {a b : TSpan} (ha : IU64 a.Lo ∧ IU64 a.Hi) (hb : IU64 b.Lo ∧ IU64 b.Hi) (hla : a.Lo ≤ a.Hi) (hlb : b.Lo ≤ b.Hi) :
    span_If op nw yes a b = match askE nw op yes (span_cut a nw) (span_cut b nw) with | none => (⟨0, 0⟩, ⟨0, 0⟩, false) | some x => (if a.Hi > mostI nw then a else x.1, if b.Hi > mostI nw then b else x.2, true) := by
  unfold span_If span_Right letF
  rw [if_neg (by simp; omega), over_eq]
  simp only
  rw [ask_eq hop (cut_ok ha hla) (cut_ok hb hlb)]
  cases askE nw op yes (span_cut a nw) (span_cut b nw) with
  | none => rfl
  | some x =>
    show (if decide (a.Hi > mostI nw) = true then _ else _) = _
    unfold span_If_J0
    simp only [decide_eq_true_eq]
    rw [show (wk nw (span_cut a nw) (span_cut b nw)).most = mostI nw from rfl]
    split <;> split <;> rfl
end Go.Y

/- Rules for plain laws: tests, wraps, loops. Nothing here is about one program. -/
namespace Go.Y
open Go.RowKit Go.V Go.X

theorem forkB_if {R : Type} (c : Bool) (x y : Option R) : forkB c x y = if c = true then x else y := rfl
theorem forkB_true {R : Type} (x y : Option R) : forkB true x y = x := rfl
theorem forkB_false {R : Type} (x y : Option R) : forkB false x y = y := rfl
theorem obind_of {α β : Type} (a : α) (f : α → Option β) : obind (some a) f = f a := rfl
theorem forkB_some {R : Type} (c : Bool) (x y : R) : forkB c (some x) (some y) = some (if c = true then x else y) := by cases c <;> rfl
theorem forkB_and (c x : Bool) : forkB c (some x) (some false) = some (c && x) := by cases c <;> rfl
theorem forkB_or (c x : Bool) : forkB c (some true) (some x) = some (c || x) := by cases c <;> rfl
theorem wrap64 {x : Int} (h : -9223372036854775808 ≤ x ∧ x ≤ 9223372036854775807) : IntKind.i64.wrap x = x := by
  unfold IntKind.wrap; simp [IntKind.bits, IntKind.signed]; omega
theorem wrapU64 {x : Int} (h : 0 ≤ x ∧ x ≤ 18446744073709551615) : IntKind.u64.wrap x = x := by
  unfold IntKind.wrap; simp [IntKind.bits, IntKind.signed]; omega
/-- a loop that counts up; each round takes c of fuel. -/
theorem loop {α : Type} (f : Nat → Nat → Option α) (c len : Nat) (r : Option α) (hstep : ∀ n k, k < len → f (n + c) k = f n (k + 1)) (hend : ∀ n, f (n + 1) len = r) : ∀ m k n, k + m = len → c * m + 1 ≤ n → f n k = r
  | 0, k, n, hk, hn => by
    obtain ⟨n', rfl⟩ : ∃ n', n = n' + 1 := ⟨n - 1, by omega⟩
    have : k = len := by omega
    subst this; exact hend n'
  | m + 1, k, n, hk, hn => by
    obtain ⟨n', rfl⟩ : ∃ n', n = n' + c := ⟨n - c, by rw [Nat.mul_succ] at hn; omega⟩
    rw [hstep n' k (by omega)]
    exact loop f c len r hstep hend m (k + 1) n' (by omega) (by rw [Nat.mul_succ] at hn; omega)
theorem loop0 {α : Type} (f : Nat → Nat → Option α) (c len : Nat) (r : Option α) (hstep : ∀ n k, k < len → f (n + c) k = f n (k + 1)) (hend : ∀ n, f (n + 1) len = r) (n : Nat) (hn : c * len + 1 ≤ n) : f n 0 = r := loop f c len r hstep hend len 0 n (by omega) hn
/-- one that may end early: r k is what comes of it from k on. -/
theorem loopR {α : Type} (f : Nat → Nat → Option α) (c len : Nat) (r : Nat → Option α) (hstep : ∀ n k, k < len → f (n + c) k = r k ∨ (f (n + c) k = f n (k + 1) ∧ r k = r (k + 1))) (hend : ∀ n, f (n + 1) len = r len) : ∀ m k n, k + m = len → c * m + 1 ≤ n → f n k = r k
  | 0, k, n, hk, hn => by
    obtain ⟨n', rfl⟩ : ∃ n', n = n' + 1 := ⟨n - 1, by omega⟩
    have : k = len := by omega
    subst this; exact hend n'
  | m + 1, k, n, hk, hn => by
    obtain ⟨n', rfl⟩ : ∃ n', n = n' + c := ⟨n - c, by rw [Nat.mul_succ] at hn; omega⟩
    rcases hstep n' k (by omega) with h | ⟨h1, h2⟩
    · exact h
    · rw [h1, h2]
      exact loopR f c len r hstep hend m (k + 1) n' (by omega) (by rw [Nat.mul_succ] at hn; omega)
theorem nx {k len : Nat} (h : k < len) (hl : len ≤ 1000000000) : IntKind.i64.wrap ((k : Int) + 1) = ((k + 1 : Nat) : Int) := by rw [wrap64 (by omega)]; omega
theorem up {n : Nat} {c : Nat} (h : c ≤ n) : ∃ m, n = m + c := ⟨n - c, by omega⟩
end Go.Y
