/- Tables of this program: what each operation does at its types. -/
import Derived.Test.YtljpmkdfekapiaaGreatDzD
import Derived.Test.YtljpmkdfekapiaaGreatProg
import Derived.KernelRfl
set_option linter.unusedVariables false
set_option linter.unusedSimpArgs false
set_option linter.unusedVariables false
set_option maxRecDepth 100000
namespace Go.Ev
open Go Go.Proofs
@[go_sem] theorem sz0 : sizeT Tryz.prog 0 = some 1 := by kernel_rfl
@[go_sem] theorem ag0 : aggT Tryz.prog 0 = some false := by kernel_rfl
@[go_sem] theorem sz1 : sizeT Tryz.prog 1 = some 1 := by kernel_rfl
@[go_sem] theorem ag1 : aggT Tryz.prog 1 = some false := by kernel_rfl
@[go_sem] theorem zc1 : zcells Tryz.prog 1 = some [.nilFunc] := by kernel_rfl
@[go_sem] theorem sz2 : sizeT Tryz.prog 2 = some 1 := by kernel_rfl
@[go_sem] theorem ag2 : aggT Tryz.prog 2 = some false := by kernel_rfl
@[go_sem] theorem zc2 : zcells Tryz.prog 2 = some [(.int .i64 0)] := by kernel_rfl
@[go_sem] theorem sz3 : sizeT Tryz.prog 3 = some 1 := by kernel_rfl
@[go_sem] theorem ag3 : aggT Tryz.prog 3 = some false := by kernel_rfl
@[go_sem] theorem zc3 : zcells Tryz.prog 3 = some [(.int .i64 0)] := by kernel_rfl
@[go_sem] theorem sz4 : sizeT Tryz.prog 4 = some 1 := by kernel_rfl
@[go_sem] theorem ag4 : aggT Tryz.prog 4 = some false := by kernel_rfl
@[go_sem] theorem zc4 : zcells Tryz.prog 4 = some [(.bool false)] := by kernel_rfl
@[go_sem] theorem sz5 : sizeT Tryz.prog 5 = some 1 := by kernel_rfl
@[go_sem] theorem ag5 : aggT Tryz.prog 5 = some false := by kernel_rfl
@[go_sem] theorem zc5 : zcells Tryz.prog 5 = some [(.int .u8 0)] := by kernel_rfl
@[go_sem] theorem sz6 : sizeT Tryz.prog 6 = some 1 := by kernel_rfl
@[go_sem] theorem ag6 : aggT Tryz.prog 6 = some false := by kernel_rfl
@[go_sem] theorem zc6 : zcells Tryz.prog 6 = some [(.int .u8 0)] := by kernel_rfl
@[go_sem] theorem sz7 : sizeT Tryz.prog 7 = some 4 := by kernel_rfl
@[go_sem] theorem ag7 : aggT Tryz.prog 7 = some true := by kernel_rfl
@[go_sem] theorem zc7 : zcells Tryz.prog 7 = some [(.int .i64 0), (.int .i64 0), (.bool false), (.int .u8 0)] := by kernel_rfl
@[go_sem] theorem sz8 : sizeT Tryz.prog 8 = some 4 := by kernel_rfl
@[go_sem] theorem ag8 : aggT Tryz.prog 8 = some true := by kernel_rfl
@[go_sem] theorem zc8 : zcells Tryz.prog 8 = some [(.int .i64 0), (.int .i64 0), (.bool false), (.int .u8 0)] := by kernel_rfl
@[go_sem] theorem sz9 : sizeT Tryz.prog 9 = some 1 := by kernel_rfl
@[go_sem] theorem ag9 : aggT Tryz.prog 9 = some false := by kernel_rfl
@[go_sem] theorem zc9 : zcells Tryz.prog 9 = some [(.string ⟨#[]⟩)] := by kernel_rfl
@[go_sem] theorem sz10 : sizeT Tryz.prog 10 = some 1 := by kernel_rfl
@[go_sem] theorem ag10 : aggT Tryz.prog 10 = some false := by kernel_rfl
@[go_sem] theorem zc10 : zcells Tryz.prog 10 = some [(.string ⟨#[]⟩)] := by kernel_rfl
@[go_sem] theorem sz11 : sizeT Tryz.prog 11 = some 1 := by kernel_rfl
@[go_sem] theorem ag11 : aggT Tryz.prog 11 = some false := by kernel_rfl
@[go_sem] theorem zc11 : zcells Tryz.prog 11 = some [(.string ⟨#[]⟩)] := by kernel_rfl
@[go_sem] theorem sz12 : sizeT Tryz.prog 12 = some 1 := by kernel_rfl
@[go_sem] theorem ag12 : aggT Tryz.prog 12 = some false := by kernel_rfl
@[go_sem] theorem zc12 : zcells Tryz.prog 12 = some [(.int .u64 0)] := by kernel_rfl
@[go_sem] theorem sz13 : sizeT Tryz.prog 13 = some 2 := by kernel_rfl
@[go_sem] theorem ag13 : aggT Tryz.prog 13 = some true := by kernel_rfl
@[go_sem] theorem zc13 : zcells Tryz.prog 13 = some [(.string ⟨#[]⟩), (.int .u64 0)] := by kernel_rfl
@[go_sem] theorem sz14 : sizeT Tryz.prog 14 = some 2 := by kernel_rfl
@[go_sem] theorem ag14 : aggT Tryz.prog 14 = some true := by kernel_rfl
@[go_sem] theorem zc14 : zcells Tryz.prog 14 = some [(.string ⟨#[]⟩), (.int .u64 0)] := by kernel_rfl
@[go_sem] theorem sz15 : sizeT Tryz.prog 15 = some 1 := by kernel_rfl
@[go_sem] theorem ag15 : aggT Tryz.prog 15 = some false := by kernel_rfl
@[go_sem] theorem zc15 : zcells Tryz.prog 15 = some [(.pointer none)] := by kernel_rfl
@[go_sem] theorem sz16 : sizeT Tryz.prog 16 = some 1 := by kernel_rfl
@[go_sem] theorem ag16 : aggT Tryz.prog 16 = some false := by kernel_rfl
@[go_sem] theorem zc16 : zcells Tryz.prog 16 = some [(.pointer none)] := by kernel_rfl
@[go_sem] theorem sz17 : sizeT Tryz.prog 17 = some 1 := by kernel_rfl
@[go_sem] theorem ag17 : aggT Tryz.prog 17 = some false := by kernel_rfl
@[go_sem] theorem zc17 : zcells Tryz.prog 17 = some [(.pointer none)] := by kernel_rfl
@[go_sem] theorem sz18 : sizeT Tryz.prog 18 = some 1 := by kernel_rfl
@[go_sem] theorem ag18 : aggT Tryz.prog 18 = some true := by kernel_rfl
@[go_sem] theorem zc18 : zcells Tryz.prog 18 = some [(.pointer none)] := by kernel_rfl
@[go_sem] theorem sz19 : sizeT Tryz.prog 19 = some 1 := by kernel_rfl
@[go_sem] theorem ag19 : aggT Tryz.prog 19 = some true := by kernel_rfl
@[go_sem] theorem zc19 : zcells Tryz.prog 19 = some [(.pointer none)] := by kernel_rfl
@[go_sem] theorem sz20 : sizeT Tryz.prog 20 = some 1 := by kernel_rfl
@[go_sem] theorem ag20 : aggT Tryz.prog 20 = some false := by kernel_rfl
@[go_sem] theorem zc20 : zcells Tryz.prog 20 = some [.nilIface] := by kernel_rfl
@[go_sem] theorem sz21 : sizeT Tryz.prog 21 = some 1 := by kernel_rfl
@[go_sem] theorem ag21 : aggT Tryz.prog 21 = some false := by kernel_rfl
@[go_sem] theorem zc21 : zcells Tryz.prog 21 = some [(.int .i32 0)] := by kernel_rfl
@[go_sem] theorem sz22 : sizeT Tryz.prog 22 = some 2 := by kernel_rfl
@[go_sem] theorem ag22 : aggT Tryz.prog 22 = some true := by kernel_rfl
@[go_sem] theorem zc22 : zcells Tryz.prog 22 = some [(.int .i64 0), (.int .i64 0)] := by kernel_rfl
@[go_sem] theorem sz23 : sizeT Tryz.prog 23 = some 2 := by kernel_rfl
@[go_sem] theorem ag23 : aggT Tryz.prog 23 = some true := by kernel_rfl
@[go_sem] theorem zc23 : zcells Tryz.prog 23 = some [(.int .i64 0), (.int .i64 0)] := by kernel_rfl
@[go_sem] theorem sz24 : sizeT Tryz.prog 24 = some 1 := by kernel_rfl
@[go_sem] theorem ag24 : aggT Tryz.prog 24 = some false := by kernel_rfl
@[go_sem] theorem zc24 : zcells Tryz.prog 24 = some [(.slice none 0 0)] := by kernel_rfl
@[go_sem] theorem sz25 : sizeT Tryz.prog 25 = some 2 := by kernel_rfl
@[go_sem] theorem ag25 : aggT Tryz.prog 25 = some true := by kernel_rfl
@[go_sem] theorem zc25 : zcells Tryz.prog 25 = some [(.string ⟨#[]⟩), (.string ⟨#[]⟩)] := by kernel_rfl
@[go_sem] theorem sz26 : sizeT Tryz.prog 26 = some 2 := by kernel_rfl
@[go_sem] theorem ag26 : aggT Tryz.prog 26 = some true := by kernel_rfl
@[go_sem] theorem zc26 : zcells Tryz.prog 26 = some [(.string ⟨#[]⟩), (.string ⟨#[]⟩)] := by kernel_rfl
@[go_sem] theorem sz27 : sizeT Tryz.prog 27 = some 1 := by kernel_rfl
@[go_sem] theorem ag27 : aggT Tryz.prog 27 = some false := by kernel_rfl
@[go_sem] theorem zc27 : zcells Tryz.prog 27 = some [.nilFunc] := by kernel_rfl
@[go_sem] theorem sz28 : sizeT Tryz.prog 28 = some 3 := by kernel_rfl
@[go_sem] theorem ag28 : aggT Tryz.prog 28 = some true := by kernel_rfl
@[go_sem] theorem zc28 : zcells Tryz.prog 28 = some [(.string ⟨#[]⟩), (.string ⟨#[]⟩), (.int .i64 0)] := by kernel_rfl
@[go_sem] theorem sz29 : sizeT Tryz.prog 29 = some 3 := by kernel_rfl
@[go_sem] theorem ag29 : aggT Tryz.prog 29 = some true := by kernel_rfl
@[go_sem] theorem zc29 : zcells Tryz.prog 29 = some [(.string ⟨#[]⟩), (.string ⟨#[]⟩), (.int .i64 0)] := by kernel_rfl
@[go_sem] theorem sz30 : sizeT Tryz.prog 30 = some 1 := by kernel_rfl
@[go_sem] theorem ag30 : aggT Tryz.prog 30 = some false := by kernel_rfl
@[go_sem] theorem zc30 : zcells Tryz.prog 30 = some [.nilFunc] := by kernel_rfl
@[go_sem] theorem sz31 : sizeT Tryz.prog 31 = some 1 := by kernel_rfl
@[go_sem] theorem ag31 : aggT Tryz.prog 31 = some false := by kernel_rfl
@[go_sem] theorem zc31 : zcells Tryz.prog 31 = some [.nilFunc] := by kernel_rfl
@[go_sem] theorem sz32 : sizeT Tryz.prog 32 = some 1 := by kernel_rfl
@[go_sem] theorem ag32 : aggT Tryz.prog 32 = some false := by kernel_rfl
@[go_sem] theorem zc32 : zcells Tryz.prog 32 = some [.nilFunc] := by kernel_rfl
@[go_sem] theorem sz33 : sizeT Tryz.prog 33 = some 1 := by kernel_rfl
@[go_sem] theorem ag33 : aggT Tryz.prog 33 = some false := by kernel_rfl
@[go_sem] theorem zc33 : zcells Tryz.prog 33 = some [.nilFunc] := by kernel_rfl
@[go_sem] theorem sz34 : sizeT Tryz.prog 34 = some 1 := by kernel_rfl
@[go_sem] theorem ag34 : aggT Tryz.prog 34 = some false := by kernel_rfl
@[go_sem] theorem zc34 : zcells Tryz.prog 34 = some [(.slice none 0 0)] := by kernel_rfl
@[go_sem] theorem sz35 : sizeT Tryz.prog 35 = some 8 := by kernel_rfl
@[go_sem] theorem ag35 : aggT Tryz.prog 35 = some true := by kernel_rfl
@[go_sem] theorem zc35 : zcells Tryz.prog 35 = some [(.int .i64 0), (.string ⟨#[]⟩), (.int .i64 0), (.int .i64 0), (.string ⟨#[]⟩), (.string ⟨#[]⟩), (.slice none 0 0), (.slice none 0 0)] := by kernel_rfl
@[go_sem] theorem sz36 : sizeT Tryz.prog 36 = some 8 := by kernel_rfl
@[go_sem] theorem ag36 : aggT Tryz.prog 36 = some true := by kernel_rfl
@[go_sem] theorem zc36 : zcells Tryz.prog 36 = some [(.int .i64 0), (.string ⟨#[]⟩), (.int .i64 0), (.int .i64 0), (.string ⟨#[]⟩), (.string ⟨#[]⟩), (.slice none 0 0), (.slice none 0 0)] := by kernel_rfl
@[go_sem] theorem sz37 : sizeT Tryz.prog 37 = some 1 := by kernel_rfl
@[go_sem] theorem ag37 : aggT Tryz.prog 37 = some false := by kernel_rfl
@[go_sem] theorem zc37 : zcells Tryz.prog 37 = some [.nilFunc] := by kernel_rfl
@[go_sem] theorem sz38 : sizeT Tryz.prog 38 = some 1 := by kernel_rfl
@[go_sem] theorem ag38 : aggT Tryz.prog 38 = some false := by kernel_rfl
@[go_sem] theorem zc38 : zcells Tryz.prog 38 = some [.nilFunc] := by kernel_rfl
@[go_sem] theorem sz39 : sizeT Tryz.prog 39 = some 1 := by kernel_rfl
@[go_sem] theorem ag39 : aggT Tryz.prog 39 = some false := by kernel_rfl
@[go_sem] theorem zc39 : zcells Tryz.prog 39 = some [(.slice none 0 0)] := by kernel_rfl
@[go_sem] theorem sz40 : sizeT Tryz.prog 40 = some 1 := by kernel_rfl
@[go_sem] theorem ag40 : aggT Tryz.prog 40 = some false := by kernel_rfl
@[go_sem] theorem zc40 : zcells Tryz.prog 40 = some [(.slice none 0 0)] := by kernel_rfl
@[go_sem] theorem sz41 : sizeT Tryz.prog 41 = some 1 := by kernel_rfl
@[go_sem] theorem ag41 : aggT Tryz.prog 41 = some false := by kernel_rfl
@[go_sem] theorem zc41 : zcells Tryz.prog 41 = some [(.slice none 0 0)] := by kernel_rfl
@[go_sem] theorem sz42 : sizeT Tryz.prog 42 = some 1 := by kernel_rfl
@[go_sem] theorem ag42 : aggT Tryz.prog 42 = some false := by kernel_rfl
@[go_sem] theorem zc42 : zcells Tryz.prog 42 = some [(.slice none 0 0)] := by kernel_rfl
@[go_sem] theorem sz43 : sizeT Tryz.prog 43 = some 1 := by kernel_rfl
@[go_sem] theorem ag43 : aggT Tryz.prog 43 = some false := by kernel_rfl
@[go_sem] theorem zc43 : zcells Tryz.prog 43 = some [(.slice none 0 0)] := by kernel_rfl
@[go_sem] theorem sz44 : sizeT Tryz.prog 44 = some 3 := by kernel_rfl
@[go_sem] theorem ag44 : aggT Tryz.prog 44 = some true := by kernel_rfl
@[go_sem] theorem zc44 : zcells Tryz.prog 44 = some [(.int .i64 0), (.slice none 0 0), (.slice none 0 0)] := by kernel_rfl
@[go_sem] theorem sz45 : sizeT Tryz.prog 45 = some 3 := by kernel_rfl
@[go_sem] theorem ag45 : aggT Tryz.prog 45 = some true := by kernel_rfl
@[go_sem] theorem zc45 : zcells Tryz.prog 45 = some [(.int .i64 0), (.slice none 0 0), (.slice none 0 0)] := by kernel_rfl
@[go_sem] theorem sz46 : sizeT Tryz.prog 46 = some 1 := by kernel_rfl
@[go_sem] theorem ag46 : aggT Tryz.prog 46 = some false := by kernel_rfl
@[go_sem] theorem zc46 : zcells Tryz.prog 46 = some [(.int .i64 0)] := by kernel_rfl
@[go_sem] theorem sz47 : sizeT Tryz.prog 47 = some 1 := by kernel_rfl
@[go_sem] theorem ag47 : aggT Tryz.prog 47 = some false := by kernel_rfl
@[go_sem] theorem zc47 : zcells Tryz.prog 47 = some [.nilFunc] := by kernel_rfl
@[go_sem] theorem sz48 : sizeT Tryz.prog 48 = some 4 := by kernel_rfl
@[go_sem] theorem ag48 : aggT Tryz.prog 48 = some true := by kernel_rfl
@[go_sem] theorem zc48 : zcells Tryz.prog 48 = some [(.int .i64 0), (.string ⟨#[]⟩), (.int .i64 0), (.int .i64 0)] := by kernel_rfl
@[go_sem] theorem sz49 : sizeT Tryz.prog 49 = some 4 := by kernel_rfl
@[go_sem] theorem ag49 : aggT Tryz.prog 49 = some true := by kernel_rfl
@[go_sem] theorem zc49 : zcells Tryz.prog 49 = some [(.int .i64 0), (.string ⟨#[]⟩), (.int .i64 0), (.int .i64 0)] := by kernel_rfl
@[go_sem] theorem sz50 : sizeT Tryz.prog 50 = some 7 := by kernel_rfl
@[go_sem] theorem ag50 : aggT Tryz.prog 50 = some true := by kernel_rfl
@[go_sem] theorem zc50 : zcells Tryz.prog 50 = some [(.string ⟨#[]⟩), (.int .i64 0), (.bool false), (.int .i64 0), (.int .i64 0), (.int .i64 0), (.int .i64 0)] := by kernel_rfl
@[go_sem] theorem sz51 : sizeT Tryz.prog 51 = some 7 := by kernel_rfl
@[go_sem] theorem ag51 : aggT Tryz.prog 51 = some true := by kernel_rfl
@[go_sem] theorem zc51 : zcells Tryz.prog 51 = some [(.string ⟨#[]⟩), (.int .i64 0), (.bool false), (.int .i64 0), (.int .i64 0), (.int .i64 0), (.int .i64 0)] := by kernel_rfl
@[go_sem] theorem sz52 : sizeT Tryz.prog 52 = some 1 := by kernel_rfl
@[go_sem] theorem ag52 : aggT Tryz.prog 52 = some false := by kernel_rfl
@[go_sem] theorem sz53 : sizeT Tryz.prog 53 = some 1 := by kernel_rfl
@[go_sem] theorem ag53 : aggT Tryz.prog 53 = some false := by kernel_rfl
@[go_sem] theorem zc53 : zcells Tryz.prog 53 = some [.nilFunc] := by kernel_rfl
@[go_sem] theorem sz54 : sizeT Tryz.prog 54 = some 1 := by kernel_rfl
@[go_sem] theorem ag54 : aggT Tryz.prog 54 = some false := by kernel_rfl
@[go_sem] theorem zc54 : zcells Tryz.prog 54 = some [.nilFunc] := by kernel_rfl
@[go_sem] theorem sz55 : sizeT Tryz.prog 55 = some 1 := by kernel_rfl
@[go_sem] theorem ag55 : aggT Tryz.prog 55 = some false := by kernel_rfl
@[go_sem] theorem zc55 : zcells Tryz.prog 55 = some [.nilFunc] := by kernel_rfl
@[go_sem] theorem sz56 : sizeT Tryz.prog 56 = some 1 := by kernel_rfl
@[go_sem] theorem ag56 : aggT Tryz.prog 56 = some false := by kernel_rfl
@[go_sem] theorem zc56 : zcells Tryz.prog 56 = some [.nilFunc] := by kernel_rfl
@[go_sem] theorem sz57 : sizeT Tryz.prog 57 = some 1 := by kernel_rfl
@[go_sem] theorem ag57 : aggT Tryz.prog 57 = some false := by kernel_rfl
@[go_sem] theorem zc57 : zcells Tryz.prog 57 = some [.nilFunc] := by kernel_rfl
@[go_sem] theorem sz58 : sizeT Tryz.prog 58 = some 1 := by kernel_rfl
@[go_sem] theorem ag58 : aggT Tryz.prog 58 = some false := by kernel_rfl
@[go_sem] theorem zc58 : zcells Tryz.prog 58 = some [.nilFunc] := by kernel_rfl
@[go_sem] theorem sz59 : sizeT Tryz.prog 59 = some 1 := by kernel_rfl
@[go_sem] theorem ag59 : aggT Tryz.prog 59 = some false := by kernel_rfl
@[go_sem] theorem zc59 : zcells Tryz.prog 59 = some [.nilFunc] := by kernel_rfl
@[go_sem] theorem sz60 : sizeT Tryz.prog 60 = some 1 := by kernel_rfl
@[go_sem] theorem ag60 : aggT Tryz.prog 60 = some false := by kernel_rfl
@[go_sem] theorem zc60 : zcells Tryz.prog 60 = some [(.slice none 0 0)] := by kernel_rfl
@[go_sem] theorem sz61 : sizeT Tryz.prog 61 = some 1 := by kernel_rfl
@[go_sem] theorem ag61 : aggT Tryz.prog 61 = some false := by kernel_rfl
@[go_sem] theorem zc61 : zcells Tryz.prog 61 = some [(.slice none 0 0)] := by kernel_rfl
@[go_sem] theorem sz62 : sizeT Tryz.prog 62 = some 3 := by kernel_rfl
@[go_sem] theorem ag62 : aggT Tryz.prog 62 = some true := by kernel_rfl
@[go_sem] theorem zc62 : zcells Tryz.prog 62 = some [(.int .i64 0), (.slice none 0 0), (.slice none 0 0)] := by kernel_rfl
@[go_sem] theorem sz63 : sizeT Tryz.prog 63 = some 3 := by kernel_rfl
@[go_sem] theorem ag63 : aggT Tryz.prog 63 = some true := by kernel_rfl
@[go_sem] theorem zc63 : zcells Tryz.prog 63 = some [(.int .i64 0), (.slice none 0 0), (.slice none 0 0)] := by kernel_rfl
@[go_sem] theorem sz64 : sizeT Tryz.prog 64 = some 1 := by kernel_rfl
@[go_sem] theorem ag64 : aggT Tryz.prog 64 = some false := by kernel_rfl
@[go_sem] theorem zc64 : zcells Tryz.prog 64 = some [.nilFunc] := by kernel_rfl
@[go_sem] theorem sz65 : sizeT Tryz.prog 65 = some 1 := by kernel_rfl
@[go_sem] theorem ag65 : aggT Tryz.prog 65 = some false := by kernel_rfl
@[go_sem] theorem zc65 : zcells Tryz.prog 65 = some [.nilFunc] := by kernel_rfl
@[go_sem] theorem sz66 : sizeT Tryz.prog 66 = some 1 := by kernel_rfl
@[go_sem] theorem ag66 : aggT Tryz.prog 66 = some false := by kernel_rfl
@[go_sem] theorem zc66 : zcells Tryz.prog 66 = some [.nilFunc] := by kernel_rfl
@[go_sem] theorem sz67 : sizeT Tryz.prog 67 = some 1 := by kernel_rfl
@[go_sem] theorem ag67 : aggT Tryz.prog 67 = some false := by kernel_rfl
@[go_sem] theorem zc67 : zcells Tryz.prog 67 = some [(.slice none 0 0)] := by kernel_rfl
@[go_sem] theorem sz68 : sizeT Tryz.prog 68 = some 1 := by kernel_rfl
@[go_sem] theorem ag68 : aggT Tryz.prog 68 = some false := by kernel_rfl
@[go_sem] theorem sz69 : sizeT Tryz.prog 69 = some 1 := by kernel_rfl
@[go_sem] theorem ag69 : aggT Tryz.prog 69 = some false := by kernel_rfl
@[go_sem] theorem zc69 : zcells Tryz.prog 69 = some [.nilFunc] := by kernel_rfl
@[go_sem] theorem sz70 : sizeT Tryz.prog 70 = some 4 := by kernel_rfl
@[go_sem] theorem ag70 : aggT Tryz.prog 70 = some true := by kernel_rfl
@[go_sem] theorem zc70 : zcells Tryz.prog 70 = some [(.int .i64 0), (.int .i64 0), (.int .i64 0), (.int .i64 0)] := by kernel_rfl
@[go_sem] theorem sz71 : sizeT Tryz.prog 71 = some 4 := by kernel_rfl
@[go_sem] theorem ag71 : aggT Tryz.prog 71 = some true := by kernel_rfl
@[go_sem] theorem zc71 : zcells Tryz.prog 71 = some [(.int .i64 0), (.int .i64 0), (.int .i64 0), (.int .i64 0)] := by kernel_rfl
@[go_sem] theorem sz72 : sizeT Tryz.prog 72 = some 1 := by kernel_rfl
@[go_sem] theorem ag72 : aggT Tryz.prog 72 = some false := by kernel_rfl
@[go_sem] theorem sz73 : sizeT Tryz.prog 73 = some 1 := by kernel_rfl
@[go_sem] theorem ag73 : aggT Tryz.prog 73 = some false := by kernel_rfl
@[go_sem] theorem zc73 : zcells Tryz.prog 73 = some [.nilFunc] := by kernel_rfl
@[go_sem] theorem sz74 : sizeT Tryz.prog 74 = some 1 := by kernel_rfl
@[go_sem] theorem ag74 : aggT Tryz.prog 74 = some false := by kernel_rfl
@[go_sem] theorem sz75 : sizeT Tryz.prog 75 = some 1 := by kernel_rfl
@[go_sem] theorem ag75 : aggT Tryz.prog 75 = some false := by kernel_rfl
@[go_sem] theorem zc75 : zcells Tryz.prog 75 = some [.nilFunc] := by kernel_rfl
@[go_sem] theorem sz76 : sizeT Tryz.prog 76 = some 1 := by kernel_rfl
@[go_sem] theorem ag76 : aggT Tryz.prog 76 = some false := by kernel_rfl
@[go_sem] theorem zc76 : zcells Tryz.prog 76 = some [.nilFunc] := by kernel_rfl
@[go_sem] theorem sz77 : sizeT Tryz.prog 77 = some 1 := by kernel_rfl
@[go_sem] theorem ag77 : aggT Tryz.prog 77 = some false := by kernel_rfl
@[go_sem] theorem zc77 : zcells Tryz.prog 77 = some [.nilFunc] := by kernel_rfl
@[go_sem] theorem sz78 : sizeT Tryz.prog 78 = some 1 := by kernel_rfl
@[go_sem] theorem ag78 : aggT Tryz.prog 78 = some false := by kernel_rfl
@[go_sem] theorem zc78 : zcells Tryz.prog 78 = some [.nilFunc] := by kernel_rfl
@[go_sem] theorem sz79 : sizeT Tryz.prog 79 = some 1 := by kernel_rfl
@[go_sem] theorem ag79 : aggT Tryz.prog 79 = some false := by kernel_rfl
@[go_sem] theorem zc79 : zcells Tryz.prog 79 = some [.nilFunc] := by kernel_rfl
@[go_sem] theorem sz80 : sizeT Tryz.prog 80 = some 1 := by kernel_rfl
@[go_sem] theorem ag80 : aggT Tryz.prog 80 = some false := by kernel_rfl
@[go_sem] theorem zc80 : zcells Tryz.prog 80 = some [(.slice none 0 0)] := by kernel_rfl
@[go_sem] theorem sz81 : sizeT Tryz.prog 81 = some 6 := by kernel_rfl
@[go_sem] theorem ag81 : aggT Tryz.prog 81 = some true := by kernel_rfl
@[go_sem] theorem zc81 : zcells Tryz.prog 81 = some [(.int .i64 0), (.string ⟨#[]⟩), (.int .i64 0), (.int .i64 0), (.int .i64 0), (.int .i64 0)] := by kernel_rfl
@[go_sem] theorem sz82 : sizeT Tryz.prog 82 = some 6 := by kernel_rfl
@[go_sem] theorem ag82 : aggT Tryz.prog 82 = some true := by kernel_rfl
@[go_sem] theorem zc82 : zcells Tryz.prog 82 = some [(.int .i64 0), (.string ⟨#[]⟩), (.int .i64 0), (.int .i64 0), (.int .i64 0), (.int .i64 0)] := by kernel_rfl
@[go_sem] theorem sz83 : sizeT Tryz.prog 83 = some 1 := by kernel_rfl
@[go_sem] theorem ag83 : aggT Tryz.prog 83 = some false := by kernel_rfl
@[go_sem] theorem zc83 : zcells Tryz.prog 83 = some [.nilFunc] := by kernel_rfl
@[go_sem] theorem sz84 : sizeT Tryz.prog 84 = some 1 := by kernel_rfl
@[go_sem] theorem ag84 : aggT Tryz.prog 84 = some false := by kernel_rfl
@[go_sem] theorem zc84 : zcells Tryz.prog 84 = some [.nilFunc] := by kernel_rfl
@[go_sem] theorem sz85 : sizeT Tryz.prog 85 = some 1 := by kernel_rfl
@[go_sem] theorem ag85 : aggT Tryz.prog 85 = some false := by kernel_rfl
@[go_sem] theorem zc85 : zcells Tryz.prog 85 = some [.nilFunc] := by kernel_rfl
@[go_sem] theorem sz86 : sizeT Tryz.prog 86 = some 1 := by kernel_rfl
@[go_sem] theorem ag86 : aggT Tryz.prog 86 = some false := by kernel_rfl
@[go_sem] theorem zc86 : zcells Tryz.prog 86 = some [.nilFunc] := by kernel_rfl
@[go_sem] theorem sz87 : sizeT Tryz.prog 87 = some 1 := by kernel_rfl
@[go_sem] theorem ag87 : aggT Tryz.prog 87 = some false := by kernel_rfl
@[go_sem] theorem zc87 : zcells Tryz.prog 87 = some [.nilFunc] := by kernel_rfl
@[go_sem] theorem sz88 : sizeT Tryz.prog 88 = some 1 := by kernel_rfl
@[go_sem] theorem ag88 : aggT Tryz.prog 88 = some false := by kernel_rfl
@[go_sem] theorem zc88 : zcells Tryz.prog 88 = some [.nilFunc] := by kernel_rfl
@[go_sem] theorem sz89 : sizeT Tryz.prog 89 = some 1 := by kernel_rfl
@[go_sem] theorem ag89 : aggT Tryz.prog 89 = some false := by kernel_rfl
@[go_sem] theorem zc89 : zcells Tryz.prog 89 = some [.nilFunc] := by kernel_rfl
@[go_sem] theorem sz90 : sizeT Tryz.prog 90 = some 1 := by kernel_rfl
@[go_sem] theorem ag90 : aggT Tryz.prog 90 = some false := by kernel_rfl
@[go_sem] theorem zc90 : zcells Tryz.prog 90 = some [.nilFunc] := by kernel_rfl
@[go_sem] theorem sz91 : sizeT Tryz.prog 91 = some 1 := by kernel_rfl
@[go_sem] theorem ag91 : aggT Tryz.prog 91 = some false := by kernel_rfl
@[go_sem] theorem zc91 : zcells Tryz.prog 91 = some [.nilFunc] := by kernel_rfl
@[go_sem] theorem sz92 : sizeT Tryz.prog 92 = some 1 := by kernel_rfl
@[go_sem] theorem ag92 : aggT Tryz.prog 92 = some false := by kernel_rfl
@[go_sem] theorem zc92 : zcells Tryz.prog 92 = some [.nilFunc] := by kernel_rfl
@[go_sem] theorem sz93 : sizeT Tryz.prog 93 = some 1 := by kernel_rfl
@[go_sem] theorem ag93 : aggT Tryz.prog 93 = some false := by kernel_rfl
@[go_sem] theorem zc93 : zcells Tryz.prog 93 = some [.nilFunc] := by kernel_rfl
@[go_sem] theorem sz94 : sizeT Tryz.prog 94 = some 1 := by kernel_rfl
@[go_sem] theorem ag94 : aggT Tryz.prog 94 = some false := by kernel_rfl
@[go_sem] theorem zc94 : zcells Tryz.prog 94 = some [.nilFunc] := by kernel_rfl
@[go_sem] theorem sz95 : sizeT Tryz.prog 95 = some 1 := by kernel_rfl
@[go_sem] theorem ag95 : aggT Tryz.prog 95 = some false := by kernel_rfl
@[go_sem] theorem zc95 : zcells Tryz.prog 95 = some [.nilFunc] := by kernel_rfl
@[go_sem] theorem sz96 : sizeT Tryz.prog 96 = some 1 := by kernel_rfl
@[go_sem] theorem ag96 : aggT Tryz.prog 96 = some false := by kernel_rfl
@[go_sem] theorem zc96 : zcells Tryz.prog 96 = some [.nilFunc] := by kernel_rfl
@[go_sem] theorem sz97 : sizeT Tryz.prog 97 = some 1 := by kernel_rfl
@[go_sem] theorem ag97 : aggT Tryz.prog 97 = some false := by kernel_rfl
@[go_sem] theorem zc97 : zcells Tryz.prog 97 = some [.nilFunc] := by kernel_rfl
@[go_sem] theorem sz98 : sizeT Tryz.prog 98 = some 1 := by kernel_rfl
@[go_sem] theorem ag98 : aggT Tryz.prog 98 = some false := by kernel_rfl
@[go_sem] theorem zc98 : zcells Tryz.prog 98 = some [.nilFunc] := by kernel_rfl
@[go_sem] theorem sz99 : sizeT Tryz.prog 99 = some 1 := by kernel_rfl
@[go_sem] theorem ag99 : aggT Tryz.prog 99 = some false := by kernel_rfl
@[go_sem] theorem zc99 : zcells Tryz.prog 99 = some [(.slice none 0 0)] := by kernel_rfl
@[go_sem] theorem sz100 : sizeT Tryz.prog 100 = some 1 := by kernel_rfl
@[go_sem] theorem ag100 : aggT Tryz.prog 100 = some false := by kernel_rfl
@[go_sem] theorem zc100 : zcells Tryz.prog 100 = some [.nilFunc] := by kernel_rfl
@[go_sem] theorem sz101 : sizeT Tryz.prog 101 = some 1 := by kernel_rfl
@[go_sem] theorem ag101 : aggT Tryz.prog 101 = some false := by kernel_rfl
@[go_sem] theorem zc101 : zcells Tryz.prog 101 = some [(.slice none 0 0)] := by kernel_rfl
@[go_sem] theorem sz102 : sizeT Tryz.prog 102 = some 1 := by kernel_rfl
@[go_sem] theorem ag102 : aggT Tryz.prog 102 = some false := by kernel_rfl
@[go_sem] theorem zc102 : zcells Tryz.prog 102 = some [(.slice none 0 0)] := by kernel_rfl
@[go_sem] theorem sz103 : sizeT Tryz.prog 103 = some 6 := by kernel_rfl
@[go_sem] theorem ag103 : aggT Tryz.prog 103 = some true := by kernel_rfl
@[go_sem] theorem zc103 : zcells Tryz.prog 103 = some [(.string ⟨#[]⟩), (.int .i64 0), (.int .i64 0), (.slice none 0 0), (.slice none 0 0), (.slice none 0 0)] := by kernel_rfl
@[go_sem] theorem sz104 : sizeT Tryz.prog 104 = some 6 := by kernel_rfl
@[go_sem] theorem ag104 : aggT Tryz.prog 104 = some true := by kernel_rfl
@[go_sem] theorem zc104 : zcells Tryz.prog 104 = some [(.string ⟨#[]⟩), (.int .i64 0), (.int .i64 0), (.slice none 0 0), (.slice none 0 0), (.slice none 0 0)] := by kernel_rfl
@[go_sem] theorem sz105 : sizeT Tryz.prog 105 = some 1 := by kernel_rfl
@[go_sem] theorem ag105 : aggT Tryz.prog 105 = some false := by kernel_rfl
@[go_sem] theorem zc105 : zcells Tryz.prog 105 = some [.nilFunc] := by kernel_rfl
@[go_sem] theorem sz106 : sizeT Tryz.prog 106 = some 2 := by kernel_rfl
@[go_sem] theorem ag106 : aggT Tryz.prog 106 = some true := by kernel_rfl
@[go_sem] theorem zc106 : zcells Tryz.prog 106 = some [(.int .i64 0), (.int .i64 0)] := by kernel_rfl
@[go_sem] theorem sz107 : sizeT Tryz.prog 107 = some 2 := by kernel_rfl
@[go_sem] theorem ag107 : aggT Tryz.prog 107 = some true := by kernel_rfl
@[go_sem] theorem zc107 : zcells Tryz.prog 107 = some [(.int .i64 0), (.int .i64 0)] := by kernel_rfl
@[go_sem] theorem sz108 : sizeT Tryz.prog 108 = some 1 := by kernel_rfl
@[go_sem] theorem ag108 : aggT Tryz.prog 108 = some false := by kernel_rfl
@[go_sem] theorem zc108 : zcells Tryz.prog 108 = some [.nilFunc] := by kernel_rfl
@[go_sem] theorem sz109 : sizeT Tryz.prog 109 = some 1 := by kernel_rfl
@[go_sem] theorem ag109 : aggT Tryz.prog 109 = some false := by kernel_rfl
@[go_sem] theorem sz110 : sizeT Tryz.prog 110 = some 1 := by kernel_rfl
@[go_sem] theorem ag110 : aggT Tryz.prog 110 = some false := by kernel_rfl
@[go_sem] theorem zc110 : zcells Tryz.prog 110 = some [.nilFunc] := by kernel_rfl
@[go_sem] theorem sz111 : sizeT Tryz.prog 111 = some 1 := by kernel_rfl
@[go_sem] theorem ag111 : aggT Tryz.prog 111 = some false := by kernel_rfl
@[go_sem] theorem zc111 : zcells Tryz.prog 111 = some [.nilFunc] := by kernel_rfl
@[go_sem] theorem sz112 : sizeT Tryz.prog 112 = some 1 := by kernel_rfl
@[go_sem] theorem ag112 : aggT Tryz.prog 112 = some false := by kernel_rfl
@[go_sem] theorem zc112 : zcells Tryz.prog 112 = some [.nilFunc] := by kernel_rfl
@[go_sem] theorem sz113 : sizeT Tryz.prog 113 = some 1 := by kernel_rfl
@[go_sem] theorem ag113 : aggT Tryz.prog 113 = some false := by kernel_rfl
@[go_sem] theorem sz114 : sizeT Tryz.prog 114 = some 1 := by kernel_rfl
@[go_sem] theorem ag114 : aggT Tryz.prog 114 = some false := by kernel_rfl
@[go_sem] theorem zc114 : zcells Tryz.prog 114 = some [.nilFunc] := by kernel_rfl
@[go_sem] theorem sz115 : sizeT Tryz.prog 115 = some 1 := by kernel_rfl
@[go_sem] theorem ag115 : aggT Tryz.prog 115 = some false := by kernel_rfl
@[go_sem] theorem sz116 : sizeT Tryz.prog 116 = some 1 := by kernel_rfl
@[go_sem] theorem ag116 : aggT Tryz.prog 116 = some false := by kernel_rfl
@[go_sem] theorem zc116 : zcells Tryz.prog 116 = some [.nilFunc] := by kernel_rfl
@[go_sem] theorem sz117 : sizeT Tryz.prog 117 = some 1 := by kernel_rfl
@[go_sem] theorem ag117 : aggT Tryz.prog 117 = some false := by kernel_rfl
@[go_sem] theorem sz118 : sizeT Tryz.prog 118 = some 1 := by kernel_rfl
@[go_sem] theorem ag118 : aggT Tryz.prog 118 = some false := by kernel_rfl
@[go_sem] theorem zc118 : zcells Tryz.prog 118 = some [.nilFunc] := by kernel_rfl
@[go_sem] theorem sz119 : sizeT Tryz.prog 119 = some 1 := by kernel_rfl
@[go_sem] theorem ag119 : aggT Tryz.prog 119 = some false := by kernel_rfl
@[go_sem] theorem zc119 : zcells Tryz.prog 119 = some [.nilFunc] := by kernel_rfl
@[go_sem] theorem sz120 : sizeT Tryz.prog 120 = some 1 := by kernel_rfl
@[go_sem] theorem ag120 : aggT Tryz.prog 120 = some false := by kernel_rfl
@[go_sem] theorem zc120 : zcells Tryz.prog 120 = some [.nilFunc] := by kernel_rfl
@[go_sem] theorem sz121 : sizeT Tryz.prog 121 = some 1 := by kernel_rfl
@[go_sem] theorem ag121 : aggT Tryz.prog 121 = some false := by kernel_rfl
@[go_sem] theorem zc121 : zcells Tryz.prog 121 = some [(.slice none 0 0)] := by kernel_rfl
@[go_sem] theorem sz122 : sizeT Tryz.prog 122 = some 1 := by kernel_rfl
@[go_sem] theorem ag122 : aggT Tryz.prog 122 = some false := by kernel_rfl
@[go_sem] theorem zc122 : zcells Tryz.prog 122 = some [.nilFunc] := by kernel_rfl
@[go_sem] theorem sz123 : sizeT Tryz.prog 123 = some 1 := by kernel_rfl
@[go_sem] theorem ag123 : aggT Tryz.prog 123 = some false := by kernel_rfl
@[go_sem] theorem zc123 : zcells Tryz.prog 123 = some [.nilFunc] := by kernel_rfl
@[go_sem] theorem sz124 : sizeT Tryz.prog 124 = some 1 := by kernel_rfl
@[go_sem] theorem ag124 : aggT Tryz.prog 124 = some false := by kernel_rfl
@[go_sem] theorem zc124 : zcells Tryz.prog 124 = some [.nilFunc] := by kernel_rfl
@[go_sem] theorem sz125 : sizeT Tryz.prog 125 = some 1 := by kernel_rfl
@[go_sem] theorem ag125 : aggT Tryz.prog 125 = some false := by kernel_rfl
@[go_sem] theorem zc125 : zcells Tryz.prog 125 = some [(.int .u64 0)] := by kernel_rfl
@[go_sem] theorem sz126 : sizeT Tryz.prog 126 = some 1 := by kernel_rfl
@[go_sem] theorem ag126 : aggT Tryz.prog 126 = some false := by kernel_rfl
@[go_sem] theorem zc126 : zcells Tryz.prog 126 = some [.nilFunc] := by kernel_rfl
@[go_sem] theorem sz127 : sizeT Tryz.prog 127 = some 1 := by kernel_rfl
@[go_sem] theorem ag127 : aggT Tryz.prog 127 = some false := by kernel_rfl
@[go_sem] theorem zc127 : zcells Tryz.prog 127 = some [.nilFunc] := by kernel_rfl
@[go_sem] theorem sz128 : sizeT Tryz.prog 128 = some 1 := by kernel_rfl
@[go_sem] theorem ag128 : aggT Tryz.prog 128 = some false := by kernel_rfl
@[go_sem] theorem zc128 : zcells Tryz.prog 128 = some [.nilFunc] := by kernel_rfl
@[go_sem] theorem sz129 : sizeT Tryz.prog 129 = some 5 := by kernel_rfl
@[go_sem] theorem ag129 : aggT Tryz.prog 129 = some true := by kernel_rfl
@[go_sem] theorem zc129 : zcells Tryz.prog 129 = some [(.int .i64 0), (.slice none 0 0), (.int .i64 0), (.int .i64 0), (.string ⟨#[]⟩)] := by kernel_rfl
@[go_sem] theorem sz130 : sizeT Tryz.prog 130 = some 5 := by kernel_rfl
@[go_sem] theorem ag130 : aggT Tryz.prog 130 = some true := by kernel_rfl
@[go_sem] theorem zc130 : zcells Tryz.prog 130 = some [(.int .i64 0), (.slice none 0 0), (.int .i64 0), (.int .i64 0), (.string ⟨#[]⟩)] := by kernel_rfl
@[go_sem] theorem sz131 : sizeT Tryz.prog 131 = some 1 := by kernel_rfl
@[go_sem] theorem ag131 : aggT Tryz.prog 131 = some false := by kernel_rfl
@[go_sem] theorem zc131 : zcells Tryz.prog 131 = some [(.slice none 0 0)] := by kernel_rfl
@[go_sem] theorem sz132 : sizeT Tryz.prog 132 = some 1 := by kernel_rfl
@[go_sem] theorem ag132 : aggT Tryz.prog 132 = some false := by kernel_rfl
@[go_sem] theorem zc132 : zcells Tryz.prog 132 = some [(.slice none 0 0)] := by kernel_rfl
@[go_sem] theorem sz133 : sizeT Tryz.prog 133 = some 1 := by kernel_rfl
@[go_sem] theorem ag133 : aggT Tryz.prog 133 = some false := by kernel_rfl
@[go_sem] theorem zc133 : zcells Tryz.prog 133 = some [(.slice none 0 0)] := by kernel_rfl
@[go_sem] theorem sz134 : sizeT Tryz.prog 134 = some 6 := by kernel_rfl
@[go_sem] theorem ag134 : aggT Tryz.prog 134 = some true := by kernel_rfl
@[go_sem] theorem zc134 : zcells Tryz.prog 134 = some [(.string ⟨#[]⟩), (.string ⟨#[]⟩), (.slice none 0 0), (.slice none 0 0), (.slice none 0 0), (.int .i64 0)] := by kernel_rfl
@[go_sem] theorem sz135 : sizeT Tryz.prog 135 = some 6 := by kernel_rfl
@[go_sem] theorem ag135 : aggT Tryz.prog 135 = some true := by kernel_rfl
@[go_sem] theorem zc135 : zcells Tryz.prog 135 = some [(.string ⟨#[]⟩), (.string ⟨#[]⟩), (.slice none 0 0), (.slice none 0 0), (.slice none 0 0), (.int .i64 0)] := by kernel_rfl
@[go_sem] theorem sz136 : sizeT Tryz.prog 136 = some 7 := by kernel_rfl
@[go_sem] theorem ag136 : aggT Tryz.prog 136 = some true := by kernel_rfl
@[go_sem] theorem zc136 : zcells Tryz.prog 136 = some [(.int .i64 0), (.string ⟨#[]⟩), (.int .i64 0), (.int .i64 0), (.int .i64 0), (.int .i64 0), (.int .i64 0)] := by kernel_rfl
@[go_sem] theorem sz137 : sizeT Tryz.prog 137 = some 7 := by kernel_rfl
@[go_sem] theorem ag137 : aggT Tryz.prog 137 = some true := by kernel_rfl
@[go_sem] theorem zc137 : zcells Tryz.prog 137 = some [(.int .i64 0), (.string ⟨#[]⟩), (.int .i64 0), (.int .i64 0), (.int .i64 0), (.int .i64 0), (.int .i64 0)] := by kernel_rfl
@[go_sem] theorem sz138 : sizeT Tryz.prog 138 = some 1 := by kernel_rfl
@[go_sem] theorem ag138 : aggT Tryz.prog 138 = some false := by kernel_rfl
@[go_sem] theorem zc138 : zcells Tryz.prog 138 = some [(.map none)] := by kernel_rfl
@[go_sem] theorem sz139 : sizeT Tryz.prog 139 = some 1 := by kernel_rfl
@[go_sem] theorem ag139 : aggT Tryz.prog 139 = some false := by kernel_rfl
@[go_sem] theorem zc139 : zcells Tryz.prog 139 = some [(.map none)] := by kernel_rfl
@[go_sem] theorem sz140 : sizeT Tryz.prog 140 = some 1 := by kernel_rfl
@[go_sem] theorem ag140 : aggT Tryz.prog 140 = some false := by kernel_rfl
@[go_sem] theorem zc140 : zcells Tryz.prog 140 = some [(.map none)] := by kernel_rfl
@[go_sem] theorem sz141 : sizeT Tryz.prog 141 = some 1 := by kernel_rfl
@[go_sem] theorem ag141 : aggT Tryz.prog 141 = some false := by kernel_rfl
@[go_sem] theorem zc141 : zcells Tryz.prog 141 = some [.nilFunc] := by kernel_rfl
@[go_sem] theorem sz142 : sizeT Tryz.prog 142 = some 1 := by kernel_rfl
@[go_sem] theorem ag142 : aggT Tryz.prog 142 = some false := by kernel_rfl
@[go_sem] theorem zc142 : zcells Tryz.prog 142 = some [.nilFunc] := by kernel_rfl
@[go_sem] theorem sz143 : sizeT Tryz.prog 143 = some 1 := by kernel_rfl
@[go_sem] theorem ag143 : aggT Tryz.prog 143 = some false := by kernel_rfl
@[go_sem] theorem zc143 : zcells Tryz.prog 143 = some [.nilFunc] := by kernel_rfl
@[go_sem] theorem sz144 : sizeT Tryz.prog 144 = some 1 := by kernel_rfl
@[go_sem] theorem ag144 : aggT Tryz.prog 144 = some false := by kernel_rfl
@[go_sem] theorem zc144 : zcells Tryz.prog 144 = some [.nilFunc] := by kernel_rfl
@[go_sem] theorem sz145 : sizeT Tryz.prog 145 = some 1 := by kernel_rfl
@[go_sem] theorem ag145 : aggT Tryz.prog 145 = some false := by kernel_rfl
@[go_sem] theorem zc145 : zcells Tryz.prog 145 = some [.nilFunc] := by kernel_rfl
@[go_sem] theorem sz146 : sizeT Tryz.prog 146 = some 1 := by kernel_rfl
@[go_sem] theorem ag146 : aggT Tryz.prog 146 = some false := by kernel_rfl
@[go_sem] theorem zc146 : zcells Tryz.prog 146 = some [(.map none)] := by kernel_rfl
@[go_sem] theorem sz147 : sizeT Tryz.prog 147 = some 1 := by kernel_rfl
@[go_sem] theorem ag147 : aggT Tryz.prog 147 = some false := by kernel_rfl
@[go_sem] theorem zc147 : zcells Tryz.prog 147 = some [.nilFunc] := by kernel_rfl
@[go_sem] theorem sz148 : sizeT Tryz.prog 148 = some 1 := by kernel_rfl
@[go_sem] theorem ag148 : aggT Tryz.prog 148 = some false := by kernel_rfl
@[go_sem] theorem zc148 : zcells Tryz.prog 148 = some [(.slice none 0 0)] := by kernel_rfl
@[go_sem] theorem sz149 : sizeT Tryz.prog 149 = some 1 := by kernel_rfl
@[go_sem] theorem ag149 : aggT Tryz.prog 149 = some false := by kernel_rfl
@[go_sem] theorem zc149 : zcells Tryz.prog 149 = some [.nilFunc] := by kernel_rfl
@[go_sem] theorem sz150 : sizeT Tryz.prog 150 = some 1 := by kernel_rfl
@[go_sem] theorem ag150 : aggT Tryz.prog 150 = some false := by kernel_rfl
@[go_sem] theorem zc150 : zcells Tryz.prog 150 = some [.nilFunc] := by kernel_rfl
@[go_sem] theorem sz151 : sizeT Tryz.prog 151 = some 1 := by kernel_rfl
@[go_sem] theorem ag151 : aggT Tryz.prog 151 = some false := by kernel_rfl
@[go_sem] theorem zc151 : zcells Tryz.prog 151 = some [.nilFunc] := by kernel_rfl
@[go_sem] theorem sz152 : sizeT Tryz.prog 152 = some 1 := by kernel_rfl
@[go_sem] theorem ag152 : aggT Tryz.prog 152 = some false := by kernel_rfl
@[go_sem] theorem zc152 : zcells Tryz.prog 152 = some [.nilFunc] := by kernel_rfl
@[go_sem] theorem sz153 : sizeT Tryz.prog 153 = some 1 := by kernel_rfl
@[go_sem] theorem ag153 : aggT Tryz.prog 153 = some false := by kernel_rfl
@[go_sem] theorem zc153 : zcells Tryz.prog 153 = some [.nilFunc] := by kernel_rfl
@[go_sem] theorem sz154 : sizeT Tryz.prog 154 = some 1 := by kernel_rfl
@[go_sem] theorem ag154 : aggT Tryz.prog 154 = some false := by kernel_rfl
@[go_sem] theorem zc154 : zcells Tryz.prog 154 = some [.nilFunc] := by kernel_rfl
@[go_sem] theorem sz155 : sizeT Tryz.prog 155 = some 1 := by kernel_rfl
@[go_sem] theorem ag155 : aggT Tryz.prog 155 = some false := by kernel_rfl
@[go_sem] theorem zc155 : zcells Tryz.prog 155 = some [.nilFunc] := by kernel_rfl
@[go_sem] theorem sz156 : sizeT Tryz.prog 156 = some 1 := by kernel_rfl
@[go_sem] theorem ag156 : aggT Tryz.prog 156 = some false := by kernel_rfl
@[go_sem] theorem zc156 : zcells Tryz.prog 156 = some [.nilFunc] := by kernel_rfl
@[go_sem] theorem sz157 : sizeT Tryz.prog 157 = some 1 := by kernel_rfl
@[go_sem] theorem ag157 : aggT Tryz.prog 157 = some false := by kernel_rfl
@[go_sem] theorem zc157 : zcells Tryz.prog 157 = some [.nilFunc] := by kernel_rfl
@[go_sem] theorem sz158 : sizeT Tryz.prog 158 = some 6 := by kernel_rfl
@[go_sem] theorem ag158 : aggT Tryz.prog 158 = some true := by kernel_rfl
@[go_sem] theorem zc158 : zcells Tryz.prog 158 = some [(.slice none 0 0), (.int .i64 0), (.slice none 0 0), (.slice none 0 0), (.slice none 0 0), (.slice none 0 0)] := by kernel_rfl
@[go_sem] theorem sz159 : sizeT Tryz.prog 159 = some 6 := by kernel_rfl
@[go_sem] theorem ag159 : aggT Tryz.prog 159 = some true := by kernel_rfl
@[go_sem] theorem zc159 : zcells Tryz.prog 159 = some [(.slice none 0 0), (.int .i64 0), (.slice none 0 0), (.slice none 0 0), (.slice none 0 0), (.slice none 0 0)] := by kernel_rfl
@[go_sem] theorem sz160 : sizeT Tryz.prog 160 = some 1 := by kernel_rfl
@[go_sem] theorem ag160 : aggT Tryz.prog 160 = some false := by kernel_rfl
@[go_sem] theorem zc160 : zcells Tryz.prog 160 = some [.nilFunc] := by kernel_rfl
@[go_sem] theorem sz161 : sizeT Tryz.prog 161 = some 1 := by kernel_rfl
@[go_sem] theorem ag161 : aggT Tryz.prog 161 = some false := by kernel_rfl
@[go_sem] theorem zc161 : zcells Tryz.prog 161 = some [.nilFunc] := by kernel_rfl
@[go_sem] theorem sz162 : sizeT Tryz.prog 162 = some 1 := by kernel_rfl
@[go_sem] theorem ag162 : aggT Tryz.prog 162 = some false := by kernel_rfl
@[go_sem] theorem zc162 : zcells Tryz.prog 162 = some [.nilFunc] := by kernel_rfl
@[go_sem] theorem sz163 : sizeT Tryz.prog 163 = some 1 := by kernel_rfl
@[go_sem] theorem ag163 : aggT Tryz.prog 163 = some false := by kernel_rfl
@[go_sem] theorem zc163 : zcells Tryz.prog 163 = some [.nilFunc] := by kernel_rfl
@[go_sem] theorem sz164 : sizeT Tryz.prog 164 = some 1 := by kernel_rfl
@[go_sem] theorem ag164 : aggT Tryz.prog 164 = some false := by kernel_rfl
@[go_sem] theorem zc164 : zcells Tryz.prog 164 = some [.nilFunc] := by kernel_rfl
@[go_sem] theorem sz165 : sizeT Tryz.prog 165 = some 1 := by kernel_rfl
@[go_sem] theorem ag165 : aggT Tryz.prog 165 = some false := by kernel_rfl
@[go_sem] theorem zc165 : zcells Tryz.prog 165 = some [.nilFunc] := by kernel_rfl
@[go_sem] theorem sz166 : sizeT Tryz.prog 166 = some 1 := by kernel_rfl
@[go_sem] theorem ag166 : aggT Tryz.prog 166 = some false := by kernel_rfl
@[go_sem] theorem zc166 : zcells Tryz.prog 166 = some [.nilFunc] := by kernel_rfl
@[go_sem] theorem sz167 : sizeT Tryz.prog 167 = some 1 := by kernel_rfl
@[go_sem] theorem ag167 : aggT Tryz.prog 167 = some false := by kernel_rfl
@[go_sem] theorem sz168 : sizeT Tryz.prog 168 = some 1 := by kernel_rfl
@[go_sem] theorem ag168 : aggT Tryz.prog 168 = some false := by kernel_rfl
@[go_sem] theorem zc168 : zcells Tryz.prog 168 = some [.nilFunc] := by kernel_rfl
@[go_sem] theorem sz169 : sizeT Tryz.prog 169 = some 1 := by kernel_rfl
@[go_sem] theorem ag169 : aggT Tryz.prog 169 = some false := by kernel_rfl
@[go_sem] theorem zc169 : zcells Tryz.prog 169 = some [(.pointer none)] := by kernel_rfl
@[go_sem] theorem sz170 : sizeT Tryz.prog 170 = some 1 := by kernel_rfl
@[go_sem] theorem ag170 : aggT Tryz.prog 170 = some false := by kernel_rfl
@[go_sem] theorem sz171 : sizeT Tryz.prog 171 = some 1 := by kernel_rfl
@[go_sem] theorem ag171 : aggT Tryz.prog 171 = some false := by kernel_rfl
@[go_sem] theorem zc171 : zcells Tryz.prog 171 = some [.nilFunc] := by kernel_rfl
@[go_sem] theorem sz172 : sizeT Tryz.prog 172 = some 1 := by kernel_rfl
@[go_sem] theorem ag172 : aggT Tryz.prog 172 = some false := by kernel_rfl
@[go_sem] theorem zc172 : zcells Tryz.prog 172 = some [.nilFunc] := by kernel_rfl
@[go_sem] theorem sz173 : sizeT Tryz.prog 173 = some 1 := by kernel_rfl
@[go_sem] theorem ag173 : aggT Tryz.prog 173 = some false := by kernel_rfl
@[go_sem] theorem zc173 : zcells Tryz.prog 173 = some [.nilFunc] := by kernel_rfl
@[go_sem] theorem sz174 : sizeT Tryz.prog 174 = some 1 := by kernel_rfl
@[go_sem] theorem ag174 : aggT Tryz.prog 174 = some false := by kernel_rfl
@[go_sem] theorem zc174 : zcells Tryz.prog 174 = some [.nilFunc] := by kernel_rfl
@[go_sem] theorem sz175 : sizeT Tryz.prog 175 = some 1 := by kernel_rfl
@[go_sem] theorem ag175 : aggT Tryz.prog 175 = some false := by kernel_rfl
@[go_sem] theorem zc175 : zcells Tryz.prog 175 = some [(.int .i64 0)] := by kernel_rfl
@[go_sem] theorem sz176 : sizeT Tryz.prog 176 = some 1 := by kernel_rfl
@[go_sem] theorem ag176 : aggT Tryz.prog 176 = some false := by kernel_rfl
@[go_sem] theorem sz177 : sizeT Tryz.prog 177 = some 1 := by kernel_rfl
@[go_sem] theorem ag177 : aggT Tryz.prog 177 = some false := by kernel_rfl
@[go_sem] theorem zc177 : zcells Tryz.prog 177 = some [.nilFunc] := by kernel_rfl
@[go_sem] theorem sz178 : sizeT Tryz.prog 178 = some 1 := by kernel_rfl
@[go_sem] theorem ag178 : aggT Tryz.prog 178 = some false := by kernel_rfl
@[go_sem] theorem zc178 : zcells Tryz.prog 178 = some [.nilFunc] := by kernel_rfl
@[go_sem] theorem sz179 : sizeT Tryz.prog 179 = some 1 := by kernel_rfl
@[go_sem] theorem ag179 : aggT Tryz.prog 179 = some false := by kernel_rfl
@[go_sem] theorem zc179 : zcells Tryz.prog 179 = some [.nilFunc] := by kernel_rfl
@[go_sem] theorem sz180 : sizeT Tryz.prog 180 = some 1 := by kernel_rfl
@[go_sem] theorem ag180 : aggT Tryz.prog 180 = some false := by kernel_rfl
@[go_sem] theorem sz181 : sizeT Tryz.prog 181 = some 1 := by kernel_rfl
@[go_sem] theorem ag181 : aggT Tryz.prog 181 = some false := by kernel_rfl
@[go_sem] theorem zc181 : zcells Tryz.prog 181 = some [.nilFunc] := by kernel_rfl
@[go_sem] theorem sz182 : sizeT Tryz.prog 182 = some 1 := by kernel_rfl
@[go_sem] theorem ag182 : aggT Tryz.prog 182 = some false := by kernel_rfl
@[go_sem] theorem zc182 : zcells Tryz.prog 182 = some [.nilFunc] := by kernel_rfl
@[go_sem] theorem sz183 : sizeT Tryz.prog 183 = some 1 := by kernel_rfl
@[go_sem] theorem ag183 : aggT Tryz.prog 183 = some false := by kernel_rfl
@[go_sem] theorem zc183 : zcells Tryz.prog 183 = some [(.int .u32 0)] := by kernel_rfl
@[go_sem] theorem sz184 : sizeT Tryz.prog 184 = some 1 := by kernel_rfl
@[go_sem] theorem ag184 : aggT Tryz.prog 184 = some false := by kernel_rfl
@[go_sem] theorem zc184 : zcells Tryz.prog 184 = some [.nilFunc] := by kernel_rfl
@[go_sem] theorem sz185 : sizeT Tryz.prog 185 = some 1 := by kernel_rfl
@[go_sem] theorem ag185 : aggT Tryz.prog 185 = some false := by kernel_rfl
@[go_sem] theorem zc185 : zcells Tryz.prog 185 = some [(.int .u64 0)] := by kernel_rfl
@[go_sem] theorem sz186 : sizeT Tryz.prog 186 = some 1 := by kernel_rfl
@[go_sem] theorem ag186 : aggT Tryz.prog 186 = some false := by kernel_rfl
@[go_sem] theorem zc186 : zcells Tryz.prog 186 = some [.nilFunc] := by kernel_rfl
@[go_sem] theorem sz187 : sizeT Tryz.prog 187 = some 1 := by kernel_rfl
@[go_sem] theorem ag187 : aggT Tryz.prog 187 = some false := by kernel_rfl
@[go_sem] theorem zc187 : zcells Tryz.prog 187 = some [(.slice none 0 0)] := by kernel_rfl
@[go_sem] theorem sz188 : sizeT Tryz.prog 188 = some 5 := by kernel_rfl
@[go_sem] theorem ag188 : aggT Tryz.prog 188 = some true := by kernel_rfl
@[go_sem] theorem zc188 : zcells Tryz.prog 188 = some [(.string ⟨#[]⟩), (.int .i64 0), (.int .i64 0), (.bool false), (.slice none 0 0)] := by kernel_rfl
@[go_sem] theorem sz189 : sizeT Tryz.prog 189 = some 5 := by kernel_rfl
@[go_sem] theorem ag189 : aggT Tryz.prog 189 = some true := by kernel_rfl
@[go_sem] theorem zc189 : zcells Tryz.prog 189 = some [(.string ⟨#[]⟩), (.int .i64 0), (.int .i64 0), (.bool false), (.slice none 0 0)] := by kernel_rfl
@[go_sem] theorem sz190 : sizeT Tryz.prog 190 = some 1 := by kernel_rfl
@[go_sem] theorem ag190 : aggT Tryz.prog 190 = some false := by kernel_rfl
@[go_sem] theorem zc190 : zcells Tryz.prog 190 = some [.nilFunc] := by kernel_rfl
@[go_sem] theorem sz191 : sizeT Tryz.prog 191 = some 1 := by kernel_rfl
@[go_sem] theorem ag191 : aggT Tryz.prog 191 = some false := by kernel_rfl
@[go_sem] theorem sz192 : sizeT Tryz.prog 192 = some 1 := by kernel_rfl
@[go_sem] theorem ag192 : aggT Tryz.prog 192 = some false := by kernel_rfl
@[go_sem] theorem zc192 : zcells Tryz.prog 192 = some [.nilFunc] := by kernel_rfl
@[go_sem] theorem sz193 : sizeT Tryz.prog 193 = some 1 := by kernel_rfl
@[go_sem] theorem ag193 : aggT Tryz.prog 193 = some false := by kernel_rfl
@[go_sem] theorem sz194 : sizeT Tryz.prog 194 = some 1 := by kernel_rfl
@[go_sem] theorem ag194 : aggT Tryz.prog 194 = some false := by kernel_rfl
@[go_sem] theorem zc194 : zcells Tryz.prog 194 = some [.nilFunc] := by kernel_rfl
@[go_sem] theorem sz195 : sizeT Tryz.prog 195 = some 1 := by kernel_rfl
@[go_sem] theorem ag195 : aggT Tryz.prog 195 = some false := by kernel_rfl
@[go_sem] theorem zc195 : zcells Tryz.prog 195 = some [.nilFunc] := by kernel_rfl
@[go_sem] theorem sz196 : sizeT Tryz.prog 196 = some 1 := by kernel_rfl
@[go_sem] theorem ag196 : aggT Tryz.prog 196 = some false := by kernel_rfl
@[go_sem] theorem zc196 : zcells Tryz.prog 196 = some [(.map none)] := by kernel_rfl
@[go_sem] theorem sz197 : sizeT Tryz.prog 197 = some 1 := by kernel_rfl
@[go_sem] theorem ag197 : aggT Tryz.prog 197 = some false := by kernel_rfl
@[go_sem] theorem zc197 : zcells Tryz.prog 197 = some [.nilFunc] := by kernel_rfl
@[go_sem] theorem sz198 : sizeT Tryz.prog 198 = some 1 := by kernel_rfl
@[go_sem] theorem ag198 : aggT Tryz.prog 198 = some false := by kernel_rfl
@[go_sem] theorem zc198 : zcells Tryz.prog 198 = some [.nilFunc] := by kernel_rfl
@[go_sem] theorem sz199 : sizeT Tryz.prog 199 = some 1 := by kernel_rfl
@[go_sem] theorem ag199 : aggT Tryz.prog 199 = some false := by kernel_rfl
@[go_sem] theorem sz200 : sizeT Tryz.prog 200 = some 1 := by kernel_rfl
@[go_sem] theorem ag200 : aggT Tryz.prog 200 = some false := by kernel_rfl
@[go_sem] theorem zc200 : zcells Tryz.prog 200 = some [.nilFunc] := by kernel_rfl
@[go_sem] theorem sz201 : sizeT Tryz.prog 201 = some 1 := by kernel_rfl
@[go_sem] theorem ag201 : aggT Tryz.prog 201 = some false := by kernel_rfl
@[go_sem] theorem zc201 : zcells Tryz.prog 201 = some [(.map none)] := by kernel_rfl
@[go_sem] theorem sz202 : sizeT Tryz.prog 202 = some 1 := by kernel_rfl
@[go_sem] theorem ag202 : aggT Tryz.prog 202 = some false := by kernel_rfl
@[go_sem] theorem zc202 : zcells Tryz.prog 202 = some [.nilFunc] := by kernel_rfl
@[go_sem] theorem sz203 : sizeT Tryz.prog 203 = some 1 := by kernel_rfl
@[go_sem] theorem ag203 : aggT Tryz.prog 203 = some false := by kernel_rfl
@[go_sem] theorem zc203 : zcells Tryz.prog 203 = some [.nilFunc] := by kernel_rfl
@[go_sem] theorem sz204 : sizeT Tryz.prog 204 = some 1 := by kernel_rfl
@[go_sem] theorem ag204 : aggT Tryz.prog 204 = some false := by kernel_rfl
@[go_sem] theorem zc204 : zcells Tryz.prog 204 = some [.nilFunc] := by kernel_rfl
@[go_sem] theorem sz205 : sizeT Tryz.prog 205 = some 1 := by kernel_rfl
@[go_sem] theorem ag205 : aggT Tryz.prog 205 = some false := by kernel_rfl
@[go_sem] theorem zc205 : zcells Tryz.prog 205 = some [.nilFunc] := by kernel_rfl
@[go_sem] theorem sz206 : sizeT Tryz.prog 206 = some 1 := by kernel_rfl
@[go_sem] theorem ag206 : aggT Tryz.prog 206 = some false := by kernel_rfl
@[go_sem] theorem zc206 : zcells Tryz.prog 206 = some [.nilFunc] := by kernel_rfl
@[go_sem] theorem sz207 : sizeT Tryz.prog 207 = some 1 := by kernel_rfl
@[go_sem] theorem ag207 : aggT Tryz.prog 207 = some false := by kernel_rfl
@[go_sem] theorem zc207 : zcells Tryz.prog 207 = some [.nilFunc] := by kernel_rfl
@[go_sem] theorem sz208 : sizeT Tryz.prog 208 = some 1 := by kernel_rfl
@[go_sem] theorem ag208 : aggT Tryz.prog 208 = some false := by kernel_rfl
@[go_sem] theorem zc208 : zcells Tryz.prog 208 = some [.nilFunc] := by kernel_rfl
@[go_sem] theorem sz209 : sizeT Tryz.prog 209 = some 1 := by kernel_rfl
@[go_sem] theorem ag209 : aggT Tryz.prog 209 = some false := by kernel_rfl
@[go_sem] theorem zc209 : zcells Tryz.prog 209 = some [.nilFunc] := by kernel_rfl
@[go_sem] theorem sz210 : sizeT Tryz.prog 210 = some 1 := by kernel_rfl
@[go_sem] theorem ag210 : aggT Tryz.prog 210 = some false := by kernel_rfl
@[go_sem] theorem zc210 : zcells Tryz.prog 210 = some [.nilFunc] := by kernel_rfl
@[go_sem] theorem sz211 : sizeT Tryz.prog 211 = some 16 := by kernel_rfl
@[go_sem] theorem ag211 : aggT Tryz.prog 211 = some true := by kernel_rfl
@[go_sem] theorem zc211 : zcells Tryz.prog 211 = some [(.int .i64 0), (.string ⟨#[]⟩), (.string ⟨#[]⟩), (.string ⟨#[]⟩), (.string ⟨#[]⟩), (.slice none 0 0), (.slice none 0 0), (.slice none 0 0), (.int .i64 0), (.string ⟨#[]⟩), (.int .i64 0), (.int .i64 0), (.bool false), (.slice none 0 0), (.int .i64 0), (.bool false)] := by kernel_rfl
@[go_sem] theorem sz212 : sizeT Tryz.prog 212 = some 16 := by kernel_rfl
@[go_sem] theorem ag212 : aggT Tryz.prog 212 = some true := by kernel_rfl
@[go_sem] theorem zc212 : zcells Tryz.prog 212 = some [(.int .i64 0), (.string ⟨#[]⟩), (.string ⟨#[]⟩), (.string ⟨#[]⟩), (.string ⟨#[]⟩), (.slice none 0 0), (.slice none 0 0), (.slice none 0 0), (.int .i64 0), (.string ⟨#[]⟩), (.int .i64 0), (.int .i64 0), (.bool false), (.slice none 0 0), (.int .i64 0), (.bool false)] := by kernel_rfl
@[go_sem] theorem sz213 : sizeT Tryz.prog 213 = some 1 := by kernel_rfl
@[go_sem] theorem ag213 : aggT Tryz.prog 213 = some false := by kernel_rfl
@[go_sem] theorem zc213 : zcells Tryz.prog 213 = some [.nilFunc] := by kernel_rfl
@[go_sem] theorem sz214 : sizeT Tryz.prog 214 = some 1 := by kernel_rfl
@[go_sem] theorem ag214 : aggT Tryz.prog 214 = some false := by kernel_rfl
@[go_sem] theorem zc214 : zcells Tryz.prog 214 = some [.nilFunc] := by kernel_rfl
@[go_sem] theorem sz215 : sizeT Tryz.prog 215 = some 1 := by kernel_rfl
@[go_sem] theorem ag215 : aggT Tryz.prog 215 = some false := by kernel_rfl
@[go_sem] theorem zc215 : zcells Tryz.prog 215 = some [(.map none)] := by kernel_rfl
@[go_sem] theorem sz216 : sizeT Tryz.prog 216 = some 1 := by kernel_rfl
@[go_sem] theorem ag216 : aggT Tryz.prog 216 = some false := by kernel_rfl
@[go_sem] theorem zc216 : zcells Tryz.prog 216 = some [(.map none)] := by kernel_rfl
@[go_sem] theorem sz217 : sizeT Tryz.prog 217 = some 1 := by kernel_rfl
@[go_sem] theorem ag217 : aggT Tryz.prog 217 = some false := by kernel_rfl
@[go_sem] theorem zc217 : zcells Tryz.prog 217 = some [(.map none)] := by kernel_rfl
@[go_sem] theorem sz218 : sizeT Tryz.prog 218 = some 1 := by kernel_rfl
@[go_sem] theorem ag218 : aggT Tryz.prog 218 = some false := by kernel_rfl
@[go_sem] theorem zc218 : zcells Tryz.prog 218 = some [(.map none)] := by kernel_rfl
@[go_sem] theorem sz219 : sizeT Tryz.prog 219 = some 9 := by kernel_rfl
@[go_sem] theorem ag219 : aggT Tryz.prog 219 = some true := by kernel_rfl
@[go_sem] theorem zc219 : zcells Tryz.prog 219 = some [(.slice none 0 0), (.int .i64 0), (.slice none 0 0), (.slice none 0 0), (.map none), (.slice none 0 0), (.map none), (.map none), (.map none)] := by kernel_rfl
@[go_sem] theorem sz220 : sizeT Tryz.prog 220 = some 9 := by kernel_rfl
@[go_sem] theorem ag220 : aggT Tryz.prog 220 = some true := by kernel_rfl
@[go_sem] theorem zc220 : zcells Tryz.prog 220 = some [(.slice none 0 0), (.int .i64 0), (.slice none 0 0), (.slice none 0 0), (.map none), (.slice none 0 0), (.map none), (.map none), (.map none)] := by kernel_rfl
@[go_sem] theorem sz221 : sizeT Tryz.prog 221 = some 1 := by kernel_rfl
@[go_sem] theorem ag221 : aggT Tryz.prog 221 = some false := by kernel_rfl
@[go_sem] theorem zc221 : zcells Tryz.prog 221 = some [(.slice none 0 0)] := by kernel_rfl
@[go_sem] theorem sz222 : sizeT Tryz.prog 222 = some 1 := by kernel_rfl
@[go_sem] theorem ag222 : aggT Tryz.prog 222 = some false := by kernel_rfl
@[go_sem] theorem zc222 : zcells Tryz.prog 222 = some [.nilFunc] := by kernel_rfl
@[go_sem] theorem sz223 : sizeT Tryz.prog 223 = some 10 := by kernel_rfl
@[go_sem] theorem ag223 : aggT Tryz.prog 223 = some true := by kernel_rfl
@[go_sem] theorem zc223 : zcells Tryz.prog 223 = some [(.string ⟨#[]⟩), (.string ⟨#[]⟩), (.int .i64 0), (.int .i64 0), (.string ⟨#[]⟩), (.string ⟨#[]⟩), (.slice none 0 0), (.slice none 0 0), (.slice none 0 0), (.int .i64 0)] := by kernel_rfl
@[go_sem] theorem sz224 : sizeT Tryz.prog 224 = some 10 := by kernel_rfl
@[go_sem] theorem ag224 : aggT Tryz.prog 224 = some true := by kernel_rfl
@[go_sem] theorem zc224 : zcells Tryz.prog 224 = some [(.string ⟨#[]⟩), (.string ⟨#[]⟩), (.int .i64 0), (.int .i64 0), (.string ⟨#[]⟩), (.string ⟨#[]⟩), (.slice none 0 0), (.slice none 0 0), (.slice none 0 0), (.int .i64 0)] := by kernel_rfl
@[go_sem] theorem sz225 : sizeT Tryz.prog 225 = some 1 := by kernel_rfl
@[go_sem] theorem ag225 : aggT Tryz.prog 225 = some false := by kernel_rfl
@[go_sem] theorem zc225 : zcells Tryz.prog 225 = some [.nilFunc] := by kernel_rfl
@[go_sem] theorem sz226 : sizeT Tryz.prog 226 = some 2 := by kernel_rfl
@[go_sem] theorem ag226 : aggT Tryz.prog 226 = some true := by kernel_rfl
@[go_sem] theorem zc226 : zcells Tryz.prog 226 = some [(.int .i64 0), (.string ⟨#[]⟩)] := by kernel_rfl
@[go_sem] theorem sz227 : sizeT Tryz.prog 227 = some 2 := by kernel_rfl
@[go_sem] theorem ag227 : aggT Tryz.prog 227 = some true := by kernel_rfl
@[go_sem] theorem zc227 : zcells Tryz.prog 227 = some [(.int .i64 0), (.string ⟨#[]⟩)] := by kernel_rfl
@[go_sem] theorem sz228 : sizeT Tryz.prog 228 = some 1 := by kernel_rfl
@[go_sem] theorem ag228 : aggT Tryz.prog 228 = some false := by kernel_rfl
@[go_sem] theorem sz229 : sizeT Tryz.prog 229 = some 1 := by kernel_rfl
@[go_sem] theorem ag229 : aggT Tryz.prog 229 = some false := by kernel_rfl
@[go_sem] theorem zc229 : zcells Tryz.prog 229 = some [.nilFunc] := by kernel_rfl
@[go_sem] theorem sz230 : sizeT Tryz.prog 230 = some 1 := by kernel_rfl
@[go_sem] theorem ag230 : aggT Tryz.prog 230 = some false := by kernel_rfl
@[go_sem] theorem zc230 : zcells Tryz.prog 230 = some [.nilFunc] := by kernel_rfl
@[go_sem] theorem sz231 : sizeT Tryz.prog 231 = some 1 := by kernel_rfl
@[go_sem] theorem ag231 : aggT Tryz.prog 231 = some false := by kernel_rfl
@[go_sem] theorem zc231 : zcells Tryz.prog 231 = some [.nilFunc] := by kernel_rfl
@[go_sem] theorem sz232 : sizeT Tryz.prog 232 = some 1 := by kernel_rfl
@[go_sem] theorem ag232 : aggT Tryz.prog 232 = some false := by kernel_rfl
@[go_sem] theorem zc232 : zcells Tryz.prog 232 = some [.nilFunc] := by kernel_rfl
@[go_sem] theorem sz233 : sizeT Tryz.prog 233 = some 1 := by kernel_rfl
@[go_sem] theorem ag233 : aggT Tryz.prog 233 = some false := by kernel_rfl
@[go_sem] theorem zc233 : zcells Tryz.prog 233 = some [.nilFunc] := by kernel_rfl
@[go_sem] theorem sz234 : sizeT Tryz.prog 234 = some 1 := by kernel_rfl
@[go_sem] theorem ag234 : aggT Tryz.prog 234 = some false := by kernel_rfl
@[go_sem] theorem zc234 : zcells Tryz.prog 234 = some [.nilFunc] := by kernel_rfl
@[go_sem] theorem sz235 : sizeT Tryz.prog 235 = some 1 := by kernel_rfl
@[go_sem] theorem ag235 : aggT Tryz.prog 235 = some false := by kernel_rfl
@[go_sem] theorem zc235 : zcells Tryz.prog 235 = some [.nilFunc] := by kernel_rfl
@[go_sem] theorem sz236 : sizeT Tryz.prog 236 = some 1 := by kernel_rfl
@[go_sem] theorem ag236 : aggT Tryz.prog 236 = some false := by kernel_rfl
@[go_sem] theorem zc236 : zcells Tryz.prog 236 = some [(.int .u64 0)] := by kernel_rfl
@[go_sem] theorem sz237 : sizeT Tryz.prog 237 = some 1 := by kernel_rfl
@[go_sem] theorem ag237 : aggT Tryz.prog 237 = some false := by kernel_rfl
@[go_sem] theorem zc237 : zcells Tryz.prog 237 = some [.nilFunc] := by kernel_rfl
@[go_sem] theorem sz238 : sizeT Tryz.prog 238 = some 1 := by kernel_rfl
@[go_sem] theorem ag238 : aggT Tryz.prog 238 = some false := by kernel_rfl
@[go_sem] theorem zc238 : zcells Tryz.prog 238 = some [.nilFunc] := by kernel_rfl
@[go_sem] theorem sz239 : sizeT Tryz.prog 239 = some 1 := by kernel_rfl
@[go_sem] theorem ag239 : aggT Tryz.prog 239 = some false := by kernel_rfl
@[go_sem] theorem zc239 : zcells Tryz.prog 239 = some [.nilFunc] := by kernel_rfl
@[go_sem] theorem sz240 : sizeT Tryz.prog 240 = some 1 := by kernel_rfl
@[go_sem] theorem ag240 : aggT Tryz.prog 240 = some false := by kernel_rfl
@[go_sem] theorem zc240 : zcells Tryz.prog 240 = some [(.pointer none)] := by kernel_rfl
@[go_sem] theorem sz241 : sizeT Tryz.prog 241 = some 1 := by kernel_rfl
@[go_sem] theorem ag241 : aggT Tryz.prog 241 = some false := by kernel_rfl
@[go_sem] theorem zc241 : zcells Tryz.prog 241 = some [.nilFunc] := by kernel_rfl
@[go_sem] theorem sz242 : sizeT Tryz.prog 242 = some 1 := by kernel_rfl
@[go_sem] theorem ag242 : aggT Tryz.prog 242 = some false := by kernel_rfl
@[go_sem] theorem zc242 : zcells Tryz.prog 242 = some [.nilFunc] := by kernel_rfl
@[go_sem] theorem sz243 : sizeT Tryz.prog 243 = some 2 := by kernel_rfl
@[go_sem] theorem ag243 : aggT Tryz.prog 243 = some true := by kernel_rfl
@[go_sem] theorem zc243 : zcells Tryz.prog 243 = some [(.int .i64 0), (.int .i64 0)] := by kernel_rfl
@[go_sem] theorem sz244 : sizeT Tryz.prog 244 = some 2 := by kernel_rfl
@[go_sem] theorem ag244 : aggT Tryz.prog 244 = some true := by kernel_rfl
@[go_sem] theorem zc244 : zcells Tryz.prog 244 = some [(.int .i64 0), (.int .i64 0)] := by kernel_rfl
@[go_sem] theorem sz245 : sizeT Tryz.prog 245 = some 1 := by kernel_rfl
@[go_sem] theorem ag245 : aggT Tryz.prog 245 = some false := by kernel_rfl
@[go_sem] theorem zc245 : zcells Tryz.prog 245 = some [.nilFunc] := by kernel_rfl
@[go_sem] theorem sz246 : sizeT Tryz.prog 246 = some 1 := by kernel_rfl
@[go_sem] theorem ag246 : aggT Tryz.prog 246 = some false := by kernel_rfl
@[go_sem] theorem zc246 : zcells Tryz.prog 246 = some [.nilFunc] := by kernel_rfl
@[go_sem] theorem sz247 : sizeT Tryz.prog 247 = some 1 := by kernel_rfl
@[go_sem] theorem ag247 : aggT Tryz.prog 247 = some false := by kernel_rfl
@[go_sem] theorem zc247 : zcells Tryz.prog 247 = some [.nilFunc] := by kernel_rfl
@[go_sem] theorem sz248 : sizeT Tryz.prog 248 = some 1 := by kernel_rfl
@[go_sem] theorem ag248 : aggT Tryz.prog 248 = some false := by kernel_rfl
@[go_sem] theorem zc248 : zcells Tryz.prog 248 = some [.nilFunc] := by kernel_rfl
@[go_sem] theorem sz249 : sizeT Tryz.prog 249 = some 1 := by kernel_rfl
@[go_sem] theorem ag249 : aggT Tryz.prog 249 = some false := by kernel_rfl
@[go_sem] theorem zc249 : zcells Tryz.prog 249 = some [.nilFunc] := by kernel_rfl
@[go_sem] theorem sz250 : sizeT Tryz.prog 250 = some 1 := by kernel_rfl
@[go_sem] theorem ag250 : aggT Tryz.prog 250 = some false := by kernel_rfl
@[go_sem] theorem sz251 : sizeT Tryz.prog 251 = some 1 := by kernel_rfl
@[go_sem] theorem ag251 : aggT Tryz.prog 251 = some false := by kernel_rfl
@[go_sem] theorem zc251 : zcells Tryz.prog 251 = some [.nilFunc] := by kernel_rfl
@[go_sem] theorem sz252 : sizeT Tryz.prog 252 = some 1 := by kernel_rfl
@[go_sem] theorem ag252 : aggT Tryz.prog 252 = some false := by kernel_rfl
@[go_sem] theorem zc252 : zcells Tryz.prog 252 = some [.nilFunc] := by kernel_rfl
@[go_sem] theorem sz253 : sizeT Tryz.prog 253 = some 1 := by kernel_rfl
@[go_sem] theorem ag253 : aggT Tryz.prog 253 = some false := by kernel_rfl
@[go_sem] theorem zc253 : zcells Tryz.prog 253 = some [.nilFunc] := by kernel_rfl
@[go_sem] theorem sz254 : sizeT Tryz.prog 254 = some 1 := by kernel_rfl
@[go_sem] theorem ag254 : aggT Tryz.prog 254 = some false := by kernel_rfl
@[go_sem] theorem zc254 : zcells Tryz.prog 254 = some [.nilFunc] := by kernel_rfl
@[go_sem] theorem sz255 : sizeT Tryz.prog 255 = some 1 := by kernel_rfl
@[go_sem] theorem ag255 : aggT Tryz.prog 255 = some false := by kernel_rfl
@[go_sem] theorem zc255 : zcells Tryz.prog 255 = some [.nilFunc] := by kernel_rfl
@[go_sem] theorem sz256 : sizeT Tryz.prog 256 = some 1 := by kernel_rfl
@[go_sem] theorem ag256 : aggT Tryz.prog 256 = some false := by kernel_rfl
@[go_sem] theorem zc256 : zcells Tryz.prog 256 = some [.nilFunc] := by kernel_rfl
@[go_sem] theorem sz257 : sizeT Tryz.prog 257 = some 1 := by kernel_rfl
@[go_sem] theorem ag257 : aggT Tryz.prog 257 = some false := by kernel_rfl
@[go_sem] theorem zc257 : zcells Tryz.prog 257 = some [.nilFunc] := by kernel_rfl
@[go_sem] theorem sz258 : sizeT Tryz.prog 258 = some 1 := by kernel_rfl
@[go_sem] theorem ag258 : aggT Tryz.prog 258 = some false := by kernel_rfl
@[go_sem] theorem zc258 : zcells Tryz.prog 258 = some [.nilFunc] := by kernel_rfl
@[go_sem] theorem sz259 : sizeT Tryz.prog 259 = some 1 := by kernel_rfl
@[go_sem] theorem ag259 : aggT Tryz.prog 259 = some false := by kernel_rfl
@[go_sem] theorem zc259 : zcells Tryz.prog 259 = some [.nilFunc] := by kernel_rfl
@[go_sem] theorem sz260 : sizeT Tryz.prog 260 = some 1 := by kernel_rfl
@[go_sem] theorem ag260 : aggT Tryz.prog 260 = some false := by kernel_rfl
@[go_sem] theorem zc260 : zcells Tryz.prog 260 = some [.nilFunc] := by kernel_rfl
@[go_sem] theorem sz261 : sizeT Tryz.prog 261 = some 1 := by kernel_rfl
@[go_sem] theorem ag261 : aggT Tryz.prog 261 = some false := by kernel_rfl
@[go_sem] theorem zc261 : zcells Tryz.prog 261 = some [.nilFunc] := by kernel_rfl
@[go_sem] theorem sz262 : sizeT Tryz.prog 262 = some 1 := by kernel_rfl
@[go_sem] theorem ag262 : aggT Tryz.prog 262 = some false := by kernel_rfl
@[go_sem] theorem zc262 : zcells Tryz.prog 262 = some [.nilFunc] := by kernel_rfl
@[go_sem] theorem sz263 : sizeT Tryz.prog 263 = some 1 := by kernel_rfl
@[go_sem] theorem ag263 : aggT Tryz.prog 263 = some false := by kernel_rfl
@[go_sem] theorem zc263 : zcells Tryz.prog 263 = some [.nilFunc] := by kernel_rfl
@[go_sem] theorem sz264 : sizeT Tryz.prog 264 = some 1 := by kernel_rfl
@[go_sem] theorem ag264 : aggT Tryz.prog 264 = some false := by kernel_rfl
@[go_sem] theorem zc264 : zcells Tryz.prog 264 = some [.nilFunc] := by kernel_rfl
@[go_sem] theorem sz265 : sizeT Tryz.prog 265 = some 1 := by kernel_rfl
@[go_sem] theorem ag265 : aggT Tryz.prog 265 = some false := by kernel_rfl
@[go_sem] theorem zc265 : zcells Tryz.prog 265 = some [.nilFunc] := by kernel_rfl
@[go_sem] theorem sz266 : sizeT Tryz.prog 266 = some 1 := by kernel_rfl
@[go_sem] theorem ag266 : aggT Tryz.prog 266 = some false := by kernel_rfl
@[go_sem] theorem zc266 : zcells Tryz.prog 266 = some [.nilFunc] := by kernel_rfl
@[go_sem] theorem sz267 : sizeT Tryz.prog 267 = some 1 := by kernel_rfl
@[go_sem] theorem ag267 : aggT Tryz.prog 267 = some false := by kernel_rfl
@[go_sem] theorem zc267 : zcells Tryz.prog 267 = some [.nilFunc] := by kernel_rfl
@[go_sem] theorem sz268 : sizeT Tryz.prog 268 = some 1 := by kernel_rfl
@[go_sem] theorem ag268 : aggT Tryz.prog 268 = some false := by kernel_rfl
@[go_sem] theorem zc268 : zcells Tryz.prog 268 = some [.nilFunc] := by kernel_rfl
@[go_sem] theorem sz269 : sizeT Tryz.prog 269 = some 1 := by kernel_rfl
@[go_sem] theorem ag269 : aggT Tryz.prog 269 = some false := by kernel_rfl
@[go_sem] theorem zc269 : zcells Tryz.prog 269 = some [.nilFunc] := by kernel_rfl
@[go_sem] theorem sz270 : sizeT Tryz.prog 270 = some 1 := by kernel_rfl
@[go_sem] theorem ag270 : aggT Tryz.prog 270 = some false := by kernel_rfl
@[go_sem] theorem zc270 : zcells Tryz.prog 270 = some [.nilFunc] := by kernel_rfl
@[go_sem] theorem sz271 : sizeT Tryz.prog 271 = some 1 := by kernel_rfl
@[go_sem] theorem ag271 : aggT Tryz.prog 271 = some false := by kernel_rfl
@[go_sem] theorem zc271 : zcells Tryz.prog 271 = some [.nilFunc] := by kernel_rfl
@[go_sem] theorem sz272 : sizeT Tryz.prog 272 = some 1 := by kernel_rfl
@[go_sem] theorem ag272 : aggT Tryz.prog 272 = some false := by kernel_rfl
@[go_sem] theorem zc272 : zcells Tryz.prog 272 = some [.nilFunc] := by kernel_rfl
@[go_sem] theorem sz273 : sizeT Tryz.prog 273 = some 1 := by kernel_rfl
@[go_sem] theorem ag273 : aggT Tryz.prog 273 = some false := by kernel_rfl
@[go_sem] theorem zc273 : zcells Tryz.prog 273 = some [.nilFunc] := by kernel_rfl
@[go_sem] theorem sz274 : sizeT Tryz.prog 274 = some 1 := by kernel_rfl
@[go_sem] theorem ag274 : aggT Tryz.prog 274 = some false := by kernel_rfl
@[go_sem] theorem zc274 : zcells Tryz.prog 274 = some [.nilFunc] := by kernel_rfl
@[go_sem] theorem sz275 : sizeT Tryz.prog 275 = some 1 := by kernel_rfl
@[go_sem] theorem ag275 : aggT Tryz.prog 275 = some false := by kernel_rfl
@[go_sem] theorem zc275 : zcells Tryz.prog 275 = some [(.slice none 0 0)] := by kernel_rfl
@[go_sem] theorem sz276 : sizeT Tryz.prog 276 = some 1 := by kernel_rfl
@[go_sem] theorem ag276 : aggT Tryz.prog 276 = some false := by kernel_rfl
@[go_sem] theorem zc276 : zcells Tryz.prog 276 = some [.nilFunc] := by kernel_rfl
@[go_sem] theorem sz277 : sizeT Tryz.prog 277 = some 1 := by kernel_rfl
@[go_sem] theorem ag277 : aggT Tryz.prog 277 = some false := by kernel_rfl
@[go_sem] theorem zc277 : zcells Tryz.prog 277 = some [.nilFunc] := by kernel_rfl
@[go_sem] theorem sz278 : sizeT Tryz.prog 278 = some 1 := by kernel_rfl
@[go_sem] theorem ag278 : aggT Tryz.prog 278 = some false := by kernel_rfl
@[go_sem] theorem zc278 : zcells Tryz.prog 278 = some [(.pointer none)] := by kernel_rfl
@[go_sem] theorem sz279 : sizeT Tryz.prog 279 = some 1 := by kernel_rfl
@[go_sem] theorem ag279 : aggT Tryz.prog 279 = some false := by kernel_rfl
@[go_sem] theorem zc279 : zcells Tryz.prog 279 = some [.nilFunc] := by kernel_rfl
@[go_sem] theorem sz280 : sizeT Tryz.prog 280 = some 1 := by kernel_rfl
@[go_sem] theorem ag280 : aggT Tryz.prog 280 = some false := by kernel_rfl
@[go_sem] theorem zc280 : zcells Tryz.prog 280 = some [(.slice none 0 0)] := by kernel_rfl
@[go_sem] theorem sz281 : sizeT Tryz.prog 281 = some 1 := by kernel_rfl
@[go_sem] theorem ag281 : aggT Tryz.prog 281 = some false := by kernel_rfl
@[go_sem] theorem zc281 : zcells Tryz.prog 281 = some [.nilFunc] := by kernel_rfl
@[go_sem] theorem sz282 : sizeT Tryz.prog 282 = some 1 := by kernel_rfl
@[go_sem] theorem ag282 : aggT Tryz.prog 282 = some false := by kernel_rfl
@[go_sem] theorem zc282 : zcells Tryz.prog 282 = some [.nilFunc] := by kernel_rfl
@[go_sem] theorem sz283 : sizeT Tryz.prog 283 = some 1 := by kernel_rfl
@[go_sem] theorem ag283 : aggT Tryz.prog 283 = some false := by kernel_rfl
@[go_sem] theorem zc283 : zcells Tryz.prog 283 = some [.nilFunc] := by kernel_rfl
@[go_sem] theorem sz284 : sizeT Tryz.prog 284 = some 1 := by kernel_rfl
@[go_sem] theorem ag284 : aggT Tryz.prog 284 = some false := by kernel_rfl
@[go_sem] theorem zc284 : zcells Tryz.prog 284 = some [.nilFunc] := by kernel_rfl
@[go_sem] theorem sz285 : sizeT Tryz.prog 285 = some 1 := by kernel_rfl
@[go_sem] theorem ag285 : aggT Tryz.prog 285 = some false := by kernel_rfl
@[go_sem] theorem zc285 : zcells Tryz.prog 285 = some [.nilFunc] := by kernel_rfl
@[go_sem] theorem sz286 : sizeT Tryz.prog 286 = some 1 := by kernel_rfl
@[go_sem] theorem ag286 : aggT Tryz.prog 286 = some false := by kernel_rfl
@[go_sem] theorem zc286 : zcells Tryz.prog 286 = some [.nilFunc] := by kernel_rfl
@[go_sem] theorem sz287 : sizeT Tryz.prog 287 = some 1 := by kernel_rfl
@[go_sem] theorem ag287 : aggT Tryz.prog 287 = some false := by kernel_rfl
@[go_sem] theorem zc287 : zcells Tryz.prog 287 = some [.nilFunc] := by kernel_rfl
@[go_sem] theorem sz288 : sizeT Tryz.prog 288 = some 1 := by kernel_rfl
@[go_sem] theorem ag288 : aggT Tryz.prog 288 = some false := by kernel_rfl
@[go_sem] theorem zc288 : zcells Tryz.prog 288 = some [.nilFunc] := by kernel_rfl
@[go_sem] theorem sz289 : sizeT Tryz.prog 289 = some 1 := by kernel_rfl
@[go_sem] theorem ag289 : aggT Tryz.prog 289 = some false := by kernel_rfl
@[go_sem] theorem zc289 : zcells Tryz.prog 289 = some [.nilFunc] := by kernel_rfl
@[go_sem] theorem sz290 : sizeT Tryz.prog 290 = some 1 := by kernel_rfl
@[go_sem] theorem ag290 : aggT Tryz.prog 290 = some false := by kernel_rfl
@[go_sem] theorem zc290 : zcells Tryz.prog 290 = some [.nilFunc] := by kernel_rfl
@[go_sem] theorem sz291 : sizeT Tryz.prog 291 = some 1 := by kernel_rfl
@[go_sem] theorem ag291 : aggT Tryz.prog 291 = some false := by kernel_rfl
@[go_sem] theorem zc291 : zcells Tryz.prog 291 = some [.nilFunc] := by kernel_rfl
@[go_sem] theorem sz292 : sizeT Tryz.prog 292 = some 1 := by kernel_rfl
@[go_sem] theorem ag292 : aggT Tryz.prog 292 = some false := by kernel_rfl
@[go_sem] theorem zc292 : zcells Tryz.prog 292 = some [.nilFunc] := by kernel_rfl
@[go_sem] theorem sz293 : sizeT Tryz.prog 293 = some 1 := by kernel_rfl
@[go_sem] theorem ag293 : aggT Tryz.prog 293 = some false := by kernel_rfl
@[go_sem] theorem zc293 : zcells Tryz.prog 293 = some [.nilFunc] := by kernel_rfl
@[go_sem] theorem sz294 : sizeT Tryz.prog 294 = some 1 := by kernel_rfl
@[go_sem] theorem ag294 : aggT Tryz.prog 294 = some false := by kernel_rfl
@[go_sem] theorem zc294 : zcells Tryz.prog 294 = some [.nilFunc] := by kernel_rfl
@[go_sem] theorem sz295 : sizeT Tryz.prog 295 = some 1 := by kernel_rfl
@[go_sem] theorem ag295 : aggT Tryz.prog 295 = some false := by kernel_rfl
@[go_sem] theorem zc295 : zcells Tryz.prog 295 = some [.nilFunc] := by kernel_rfl
@[go_sem] theorem sz296 : sizeT Tryz.prog 296 = some 1 := by kernel_rfl
@[go_sem] theorem ag296 : aggT Tryz.prog 296 = some false := by kernel_rfl
@[go_sem] theorem zc296 : zcells Tryz.prog 296 = some [.nilFunc] := by kernel_rfl
@[go_sem] theorem sz297 : sizeT Tryz.prog 297 = some 1 := by kernel_rfl
@[go_sem] theorem ag297 : aggT Tryz.prog 297 = some false := by kernel_rfl
@[go_sem] theorem sz298 : sizeT Tryz.prog 298 = some 1 := by kernel_rfl
@[go_sem] theorem ag298 : aggT Tryz.prog 298 = some false := by kernel_rfl
@[go_sem] theorem zc298 : zcells Tryz.prog 298 = some [.nilFunc] := by kernel_rfl
@[go_sem] theorem sz299 : sizeT Tryz.prog 299 = some 1 := by kernel_rfl
@[go_sem] theorem ag299 : aggT Tryz.prog 299 = some false := by kernel_rfl
@[go_sem] theorem zc299 : zcells Tryz.prog 299 = some [.nilFunc] := by kernel_rfl
@[go_sem] theorem sz300 : sizeT Tryz.prog 300 = some 1 := by kernel_rfl
@[go_sem] theorem ag300 : aggT Tryz.prog 300 = some false := by kernel_rfl
@[go_sem] theorem zc300 : zcells Tryz.prog 300 = some [.nilFunc] := by kernel_rfl
@[go_sem] theorem sz301 : sizeT Tryz.prog 301 = some 1 := by kernel_rfl
@[go_sem] theorem ag301 : aggT Tryz.prog 301 = some false := by kernel_rfl
@[go_sem] theorem zc301 : zcells Tryz.prog 301 = some [.nilFunc] := by kernel_rfl
@[go_sem] theorem sz302 : sizeT Tryz.prog 302 = some 1 := by kernel_rfl
@[go_sem] theorem ag302 : aggT Tryz.prog 302 = some false := by kernel_rfl
@[go_sem] theorem zc302 : zcells Tryz.prog 302 = some [.nilFunc] := by kernel_rfl
@[go_sem] theorem sz303 : sizeT Tryz.prog 303 = some 1 := by kernel_rfl
@[go_sem] theorem ag303 : aggT Tryz.prog 303 = some false := by kernel_rfl
@[go_sem] theorem zc303 : zcells Tryz.prog 303 = some [.nilFunc] := by kernel_rfl
@[go_sem] theorem sz304 : sizeT Tryz.prog 304 = some 1 := by kernel_rfl
@[go_sem] theorem ag304 : aggT Tryz.prog 304 = some false := by kernel_rfl
@[go_sem] theorem zc304 : zcells Tryz.prog 304 = some [.nilFunc] := by kernel_rfl
@[go_sem] theorem sz305 : sizeT Tryz.prog 305 = some 1 := by kernel_rfl
@[go_sem] theorem ag305 : aggT Tryz.prog 305 = some false := by kernel_rfl
@[go_sem] theorem zc305 : zcells Tryz.prog 305 = some [.nilFunc] := by kernel_rfl
@[go_sem] theorem sz306 : sizeT Tryz.prog 306 = some 1 := by kernel_rfl
@[go_sem] theorem ag306 : aggT Tryz.prog 306 = some false := by kernel_rfl
@[go_sem] theorem zc306 : zcells Tryz.prog 306 = some [.nilFunc] := by kernel_rfl
@[go_sem] theorem sz307 : sizeT Tryz.prog 307 = some 1 := by kernel_rfl
@[go_sem] theorem ag307 : aggT Tryz.prog 307 = some false := by kernel_rfl
@[go_sem] theorem zc307 : zcells Tryz.prog 307 = some [.nilFunc] := by kernel_rfl
@[go_sem] theorem sz308 : sizeT Tryz.prog 308 = some 1 := by kernel_rfl
@[go_sem] theorem ag308 : aggT Tryz.prog 308 = some false := by kernel_rfl
@[go_sem] theorem zc308 : zcells Tryz.prog 308 = some [.nilFunc] := by kernel_rfl
@[go_sem] theorem sz309 : sizeT Tryz.prog 309 = some 1 := by kernel_rfl
@[go_sem] theorem ag309 : aggT Tryz.prog 309 = some false := by kernel_rfl
@[go_sem] theorem zc309 : zcells Tryz.prog 309 = some [.nilFunc] := by kernel_rfl
@[go_sem] theorem sz310 : sizeT Tryz.prog 310 = some 1 := by kernel_rfl
@[go_sem] theorem ag310 : aggT Tryz.prog 310 = some false := by kernel_rfl
@[go_sem] theorem zc310 : zcells Tryz.prog 310 = some [.nilFunc] := by kernel_rfl
@[go_sem] theorem sz311 : sizeT Tryz.prog 311 = some 1 := by kernel_rfl
@[go_sem] theorem ag311 : aggT Tryz.prog 311 = some false := by kernel_rfl
@[go_sem] theorem zc311 : zcells Tryz.prog 311 = some [.nilFunc] := by kernel_rfl
@[go_sem] theorem sz312 : sizeT Tryz.prog 312 = some 1 := by kernel_rfl
@[go_sem] theorem ag312 : aggT Tryz.prog 312 = some false := by kernel_rfl
@[go_sem] theorem zc312 : zcells Tryz.prog 312 = some [.nilFunc] := by kernel_rfl
@[go_sem] theorem sz313 : sizeT Tryz.prog 313 = some 1 := by kernel_rfl
@[go_sem] theorem ag313 : aggT Tryz.prog 313 = some false := by kernel_rfl
@[go_sem] theorem zc313 : zcells Tryz.prog 313 = some [.nilFunc] := by kernel_rfl
@[go_sem] theorem sz314 : sizeT Tryz.prog 314 = some 1 := by kernel_rfl
@[go_sem] theorem ag314 : aggT Tryz.prog 314 = some false := by kernel_rfl
@[go_sem] theorem zc314 : zcells Tryz.prog 314 = some [.nilFunc] := by kernel_rfl
@[go_sem] theorem sz315 : sizeT Tryz.prog 315 = some 1 := by kernel_rfl
@[go_sem] theorem ag315 : aggT Tryz.prog 315 = some false := by kernel_rfl
@[go_sem] theorem zc315 : zcells Tryz.prog 315 = some [.nilFunc] := by kernel_rfl
@[go_sem] theorem sz316 : sizeT Tryz.prog 316 = some 1 := by kernel_rfl
@[go_sem] theorem ag316 : aggT Tryz.prog 316 = some false := by kernel_rfl
@[go_sem] theorem zc316 : zcells Tryz.prog 316 = some [.nilFunc] := by kernel_rfl
@[go_sem] theorem sz317 : sizeT Tryz.prog 317 = some 1 := by kernel_rfl
@[go_sem] theorem ag317 : aggT Tryz.prog 317 = some false := by kernel_rfl
@[go_sem] theorem zc317 : zcells Tryz.prog 317 = some [.nilFunc] := by kernel_rfl
@[go_sem] theorem sz318 : sizeT Tryz.prog 318 = some 1 := by kernel_rfl
@[go_sem] theorem ag318 : aggT Tryz.prog 318 = some false := by kernel_rfl
@[go_sem] theorem zc318 : zcells Tryz.prog 318 = some [.nilFunc] := by kernel_rfl
@[go_sem] theorem sz319 : sizeT Tryz.prog 319 = some 1 := by kernel_rfl
@[go_sem] theorem ag319 : aggT Tryz.prog 319 = some false := by kernel_rfl
@[go_sem] theorem zc319 : zcells Tryz.prog 319 = some [(.pointer none)] := by kernel_rfl
@[go_sem] theorem sz320 : sizeT Tryz.prog 320 = some 1 := by kernel_rfl
@[go_sem] theorem ag320 : aggT Tryz.prog 320 = some false := by kernel_rfl
@[go_sem] theorem zc320 : zcells Tryz.prog 320 = some [.nilFunc] := by kernel_rfl
@[go_sem] theorem sz321 : sizeT Tryz.prog 321 = some 1 := by kernel_rfl
@[go_sem] theorem ag321 : aggT Tryz.prog 321 = some false := by kernel_rfl
@[go_sem] theorem zc321 : zcells Tryz.prog 321 = some [.nilFunc] := by kernel_rfl
@[go_sem] theorem sz322 : sizeT Tryz.prog 322 = some 1 := by kernel_rfl
@[go_sem] theorem ag322 : aggT Tryz.prog 322 = some false := by kernel_rfl
@[go_sem] theorem zc322 : zcells Tryz.prog 322 = some [.nilFunc] := by kernel_rfl
@[go_sem] theorem sz323 : sizeT Tryz.prog 323 = some 1 := by kernel_rfl
@[go_sem] theorem ag323 : aggT Tryz.prog 323 = some false := by kernel_rfl
@[go_sem] theorem zc323 : zcells Tryz.prog 323 = some [.nilFunc] := by kernel_rfl
@[go_sem] theorem sz324 : sizeT Tryz.prog 324 = some 1 := by kernel_rfl
@[go_sem] theorem ag324 : aggT Tryz.prog 324 = some false := by kernel_rfl
@[go_sem] theorem zc324 : zcells Tryz.prog 324 = some [.nilFunc] := by kernel_rfl
@[go_sem] theorem sz325 : sizeT Tryz.prog 325 = some 1 := by kernel_rfl
@[go_sem] theorem ag325 : aggT Tryz.prog 325 = some false := by kernel_rfl
@[go_sem] theorem zc325 : zcells Tryz.prog 325 = some [.nilFunc] := by kernel_rfl
@[go_sem] theorem sz326 : sizeT Tryz.prog 326 = some 1 := by kernel_rfl
@[go_sem] theorem ag326 : aggT Tryz.prog 326 = some false := by kernel_rfl
@[go_sem] theorem zc326 : zcells Tryz.prog 326 = some [.nilFunc] := by kernel_rfl
@[go_sem] theorem sz327 : sizeT Tryz.prog 327 = some 1 := by kernel_rfl
@[go_sem] theorem ag327 : aggT Tryz.prog 327 = some false := by kernel_rfl
@[go_sem] theorem zc327 : zcells Tryz.prog 327 = some [.nilFunc] := by kernel_rfl
@[go_sem] theorem sz328 : sizeT Tryz.prog 328 = some 1 := by kernel_rfl
@[go_sem] theorem ag328 : aggT Tryz.prog 328 = some false := by kernel_rfl
@[go_sem] theorem zc328 : zcells Tryz.prog 328 = some [.nilFunc] := by kernel_rfl
@[go_sem] theorem sz329 : sizeT Tryz.prog 329 = some 1 := by kernel_rfl
@[go_sem] theorem ag329 : aggT Tryz.prog 329 = some false := by kernel_rfl
@[go_sem] theorem zc329 : zcells Tryz.prog 329 = some [.nilFunc] := by kernel_rfl
@[go_sem] theorem sz330 : sizeT Tryz.prog 330 = some 1 := by kernel_rfl
@[go_sem] theorem ag330 : aggT Tryz.prog 330 = some false := by kernel_rfl
@[go_sem] theorem zc330 : zcells Tryz.prog 330 = some [.nilFunc] := by kernel_rfl
@[go_sem] theorem sz331 : sizeT Tryz.prog 331 = some 1 := by kernel_rfl
@[go_sem] theorem ag331 : aggT Tryz.prog 331 = some false := by kernel_rfl
@[go_sem] theorem zc331 : zcells Tryz.prog 331 = some [.nilFunc] := by kernel_rfl
@[go_sem] theorem sz332 : sizeT Tryz.prog 332 = some 1 := by kernel_rfl
@[go_sem] theorem ag332 : aggT Tryz.prog 332 = some false := by kernel_rfl
@[go_sem] theorem zc332 : zcells Tryz.prog 332 = some [.nilFunc] := by kernel_rfl
@[go_sem] theorem sz333 : sizeT Tryz.prog 333 = some 1 := by kernel_rfl
@[go_sem] theorem ag333 : aggT Tryz.prog 333 = some false := by kernel_rfl
@[go_sem] theorem zc333 : zcells Tryz.prog 333 = some [.nilFunc] := by kernel_rfl
@[go_sem] theorem sz334 : sizeT Tryz.prog 334 = some 1 := by kernel_rfl
@[go_sem] theorem ag334 : aggT Tryz.prog 334 = some false := by kernel_rfl
@[go_sem] theorem zc334 : zcells Tryz.prog 334 = some [.nilFunc] := by kernel_rfl
@[go_sem] theorem sz335 : sizeT Tryz.prog 335 = some 1 := by kernel_rfl
@[go_sem] theorem ag335 : aggT Tryz.prog 335 = some false := by kernel_rfl
@[go_sem] theorem zc335 : zcells Tryz.prog 335 = some [.nilFunc] := by kernel_rfl
@[go_sem] theorem sz336 : sizeT Tryz.prog 336 = some 1 := by kernel_rfl
@[go_sem] theorem ag336 : aggT Tryz.prog 336 = some false := by kernel_rfl
@[go_sem] theorem zc336 : zcells Tryz.prog 336 = some [.nilFunc] := by kernel_rfl
@[go_sem] theorem sz337 : sizeT Tryz.prog 337 = some 1 := by kernel_rfl
@[go_sem] theorem ag337 : aggT Tryz.prog 337 = some false := by kernel_rfl
@[go_sem] theorem zc337 : zcells Tryz.prog 337 = some [.nilFunc] := by kernel_rfl
@[go_sem] theorem sz338 : sizeT Tryz.prog 338 = some 1 := by kernel_rfl
@[go_sem] theorem ag338 : aggT Tryz.prog 338 = some false := by kernel_rfl
@[go_sem] theorem zc338 : zcells Tryz.prog 338 = some [.nilFunc] := by kernel_rfl
@[go_sem] theorem sz339 : sizeT Tryz.prog 339 = some 1 := by kernel_rfl
@[go_sem] theorem ag339 : aggT Tryz.prog 339 = some false := by kernel_rfl
@[go_sem] theorem zc339 : zcells Tryz.prog 339 = some [.nilFunc] := by kernel_rfl
@[go_sem] theorem sz340 : sizeT Tryz.prog 340 = some 1 := by kernel_rfl
@[go_sem] theorem ag340 : aggT Tryz.prog 340 = some false := by kernel_rfl
@[go_sem] theorem zc340 : zcells Tryz.prog 340 = some [.nilFunc] := by kernel_rfl
@[go_sem] theorem sz341 : sizeT Tryz.prog 341 = some 1 := by kernel_rfl
@[go_sem] theorem ag341 : aggT Tryz.prog 341 = some false := by kernel_rfl
@[go_sem] theorem sz342 : sizeT Tryz.prog 342 = some 1 := by kernel_rfl
@[go_sem] theorem ag342 : aggT Tryz.prog 342 = some false := by kernel_rfl
@[go_sem] theorem zc342 : zcells Tryz.prog 342 = some [.nilFunc] := by kernel_rfl
@[go_sem] theorem sz343 : sizeT Tryz.prog 343 = some 1 := by kernel_rfl
@[go_sem] theorem ag343 : aggT Tryz.prog 343 = some false := by kernel_rfl
@[go_sem] theorem zc343 : zcells Tryz.prog 343 = some [.nilFunc] := by kernel_rfl
@[go_sem] theorem sz344 : sizeT Tryz.prog 344 = some 1 := by kernel_rfl
@[go_sem] theorem ag344 : aggT Tryz.prog 344 = some false := by kernel_rfl
@[go_sem] theorem zc344 : zcells Tryz.prog 344 = some [.nilFunc] := by kernel_rfl
@[go_sem] theorem sz345 : sizeT Tryz.prog 345 = some 1 := by kernel_rfl
@[go_sem] theorem ag345 : aggT Tryz.prog 345 = some false := by kernel_rfl
@[go_sem] theorem zc345 : zcells Tryz.prog 345 = some [.nilIface] := by kernel_rfl
@[go_sem] theorem sz346 : sizeT Tryz.prog 346 = some 1 := by kernel_rfl
@[go_sem] theorem ag346 : aggT Tryz.prog 346 = some false := by kernel_rfl
@[go_sem] theorem zc346 : zcells Tryz.prog 346 = some [.nilIface] := by kernel_rfl
@[go_sem] theorem sz347 : sizeT Tryz.prog 347 = some 1 := by kernel_rfl
@[go_sem] theorem ag347 : aggT Tryz.prog 347 = some false := by kernel_rfl
@[go_sem] theorem zc347 : zcells Tryz.prog 347 = some [(.pointer none)] := by kernel_rfl
@[go_sem] theorem sz348 : sizeT Tryz.prog 348 = some 1 := by kernel_rfl
@[go_sem] theorem ag348 : aggT Tryz.prog 348 = some false := by kernel_rfl
@[go_sem] theorem zc348 : zcells Tryz.prog 348 = some [.nilFunc] := by kernel_rfl
@[go_sem] theorem sz349 : sizeT Tryz.prog 349 = some 4 := by kernel_rfl
@[go_sem] theorem ag349 : aggT Tryz.prog 349 = some true := by kernel_rfl
@[go_sem] theorem zc349 : zcells Tryz.prog 349 = some [(.pointer none), (.pointer none), (.pointer none), (.string ⟨#[]⟩)] := by kernel_rfl
@[go_sem] theorem sz350 : sizeT Tryz.prog 350 = some 4 := by kernel_rfl
@[go_sem] theorem ag350 : aggT Tryz.prog 350 = some true := by kernel_rfl
@[go_sem] theorem zc350 : zcells Tryz.prog 350 = some [(.pointer none), (.pointer none), (.pointer none), (.string ⟨#[]⟩)] := by kernel_rfl
@[go_sem] theorem sz351 : sizeT Tryz.prog 351 = some 0 := by kernel_rfl
@[go_sem] theorem ag351 : aggT Tryz.prog 351 = some true := by kernel_rfl
@[go_sem] theorem zc351 : zcells Tryz.prog 351 = some [] := by kernel_rfl
@[go_sem] theorem sz352 : sizeT Tryz.prog 352 = some 0 := by kernel_rfl
@[go_sem] theorem ag352 : aggT Tryz.prog 352 = some true := by kernel_rfl
@[go_sem] theorem zc352 : zcells Tryz.prog 352 = some [] := by kernel_rfl
@[go_sem] theorem sz353 : sizeT Tryz.prog 353 = some 0 := by kernel_rfl
@[go_sem] theorem ag353 : aggT Tryz.prog 353 = some true := by kernel_rfl
@[go_sem] theorem zc353 : zcells Tryz.prog 353 = some [] := by kernel_rfl
@[go_sem] theorem sz354 : sizeT Tryz.prog 354 = some 1 := by kernel_rfl
@[go_sem] theorem ag354 : aggT Tryz.prog 354 = some false := by kernel_rfl
@[go_sem] theorem zc354 : zcells Tryz.prog 354 = some [.nilFunc] := by kernel_rfl
@[go_sem] theorem sz355 : sizeT Tryz.prog 355 = some 1 := by kernel_rfl
@[go_sem] theorem ag355 : aggT Tryz.prog 355 = some false := by kernel_rfl
@[go_sem] theorem zc355 : zcells Tryz.prog 355 = some [(.int .u8 0)] := by kernel_rfl
@[go_sem] theorem sz356 : sizeT Tryz.prog 356 = some 1 := by kernel_rfl
@[go_sem] theorem ag356 : aggT Tryz.prog 356 = some false := by kernel_rfl
@[go_sem] theorem zc356 : zcells Tryz.prog 356 = some [(.int .u8 0)] := by kernel_rfl
@[go_sem] theorem sz357 : sizeT Tryz.prog 357 = some 1 := by kernel_rfl
@[go_sem] theorem ag357 : aggT Tryz.prog 357 = some false := by kernel_rfl
@[go_sem] theorem zc357 : zcells Tryz.prog 357 = some [.nilFunc] := by kernel_rfl
@[go_sem] theorem sz358 : sizeT Tryz.prog 358 = some 1 := by kernel_rfl
@[go_sem] theorem ag358 : aggT Tryz.prog 358 = some false := by kernel_rfl
@[go_sem] theorem zc358 : zcells Tryz.prog 358 = some [(.pointer none)] := by kernel_rfl
@[go_sem] theorem sz359 : sizeT Tryz.prog 359 = some 1 := by kernel_rfl
@[go_sem] theorem ag359 : aggT Tryz.prog 359 = some false := by kernel_rfl
@[go_sem] theorem zc359 : zcells Tryz.prog 359 = some [(.int .i32 0)] := by kernel_rfl
@[go_sem] theorem sz360 : sizeT Tryz.prog 360 = some 1 := by kernel_rfl
@[go_sem] theorem ag360 : aggT Tryz.prog 360 = some false := by kernel_rfl
@[go_sem] theorem zc360 : zcells Tryz.prog 360 = some [(.int .i32 0)] := by kernel_rfl
@[go_sem] theorem sz361 : sizeT Tryz.prog 361 = some 11 := by kernel_rfl
@[go_sem] theorem ag361 : aggT Tryz.prog 361 = some true := by kernel_rfl
@[go_sem] theorem zc361 : zcells Tryz.prog 361 = some [(.int .u64 0), (.int .u64 0), (.int .u32 0), (.int .u8 0), (.int .u8 0), (.int .u8 0), (.int .u8 0), .nilFunc, (.pointer none), (.int .i32 0), (.int .i32 0)] := by kernel_rfl
@[go_sem] theorem sz362 : sizeT Tryz.prog 362 = some 11 := by kernel_rfl
@[go_sem] theorem ag362 : aggT Tryz.prog 362 = some true := by kernel_rfl
@[go_sem] theorem zc362 : zcells Tryz.prog 362 = some [(.int .u64 0), (.int .u64 0), (.int .u32 0), (.int .u8 0), (.int .u8 0), (.int .u8 0), (.int .u8 0), .nilFunc, (.pointer none), (.int .i32 0), (.int .i32 0)] := by kernel_rfl
@[go_sem] theorem sz363 : sizeT Tryz.prog 363 = some 1 := by kernel_rfl
@[go_sem] theorem ag363 : aggT Tryz.prog 363 = some false := by kernel_rfl
@[go_sem] theorem zc363 : zcells Tryz.prog 363 = some [.nilFunc] := by kernel_rfl
@[go_sem] theorem sz364 : sizeT Tryz.prog 364 = some 1 := by kernel_rfl
@[go_sem] theorem ag364 : aggT Tryz.prog 364 = some true := by kernel_rfl
@[go_sem] theorem zc364 : zcells Tryz.prog 364 = some [(.string ⟨#[]⟩)] := by kernel_rfl
@[go_sem] theorem sz365 : sizeT Tryz.prog 365 = some 1 := by kernel_rfl
@[go_sem] theorem ag365 : aggT Tryz.prog 365 = some true := by kernel_rfl
@[go_sem] theorem zc365 : zcells Tryz.prog 365 = some [(.string ⟨#[]⟩)] := by kernel_rfl
@[go_sem] theorem sz366 : sizeT Tryz.prog 366 = some 1 := by kernel_rfl
@[go_sem] theorem ag366 : aggT Tryz.prog 366 = some false := by kernel_rfl
@[go_sem] theorem zc366 : zcells Tryz.prog 366 = some [(.pointer none)] := by kernel_rfl
@[go_sem] theorem fl23_1 {a0 a1 : Value} : fldE Tryz.prog 23 1 [a0, a1] = some a1 := by kernel_rfl
@[go_sem] theorem fl51_1 {a0 a1 a2 a3 a4 a5 a6 : Value} : fldE Tryz.prog 51 1 [a0, a1, a2, a3, a4, a5, a6] = some a1 := by kernel_rfl
@[go_sem] theorem fa23_0 {a : Addr} : fldA Tryz.prog 23 0 a = some (.pointer (some (a.add 0))) := by kernel_rfl
@[go_sem] theorem fa23_1 {a : Addr} : fldA Tryz.prog 23 1 a = some (.pointer (some (a.add 1))) := by kernel_rfl
@[go_sem] theorem fa26_0 {a : Addr} : fldA Tryz.prog 26 0 a = some (.pointer (some (a.add 0))) := by kernel_rfl
@[go_sem] theorem fa26_1 {a : Addr} : fldA Tryz.prog 26 1 a = some (.pointer (some (a.add 1))) := by kernel_rfl
@[go_sem] theorem fa29_0 {a : Addr} : fldA Tryz.prog 29 0 a = some (.pointer (some (a.add 0))) := by kernel_rfl
@[go_sem] theorem fa29_1 {a : Addr} : fldA Tryz.prog 29 1 a = some (.pointer (some (a.add 2))) := by kernel_rfl
@[go_sem] theorem fa36_0 {a : Addr} : fldA Tryz.prog 36 0 a = some (.pointer (some (a.add 0))) := by kernel_rfl
@[go_sem] theorem fa36_1 {a : Addr} : fldA Tryz.prog 36 1 a = some (.pointer (some (a.add 1))) := by kernel_rfl
@[go_sem] theorem fa36_2 {a : Addr} : fldA Tryz.prog 36 2 a = some (.pointer (some (a.add 2))) := by kernel_rfl
@[go_sem] theorem fa36_3 {a : Addr} : fldA Tryz.prog 36 3 a = some (.pointer (some (a.add 4))) := by kernel_rfl
@[go_sem] theorem fa36_4 {a : Addr} : fldA Tryz.prog 36 4 a = some (.pointer (some (a.add 6))) := by kernel_rfl
@[go_sem] theorem fa36_5 {a : Addr} : fldA Tryz.prog 36 5 a = some (.pointer (some (a.add 7))) := by kernel_rfl
@[go_sem] theorem fa45_0 {a : Addr} : fldA Tryz.prog 45 0 a = some (.pointer (some (a.add 0))) := by kernel_rfl
@[go_sem] theorem fa45_1 {a : Addr} : fldA Tryz.prog 45 1 a = some (.pointer (some (a.add 1))) := by kernel_rfl
@[go_sem] theorem fa45_2 {a : Addr} : fldA Tryz.prog 45 2 a = some (.pointer (some (a.add 2))) := by kernel_rfl
@[go_sem] theorem fa49_0 {a : Addr} : fldA Tryz.prog 49 0 a = some (.pointer (some (a.add 0))) := by kernel_rfl
@[go_sem] theorem fa49_1 {a : Addr} : fldA Tryz.prog 49 1 a = some (.pointer (some (a.add 1))) := by kernel_rfl
@[go_sem] theorem fa49_2 {a : Addr} : fldA Tryz.prog 49 2 a = some (.pointer (some (a.add 2))) := by kernel_rfl
@[go_sem] theorem fa51_0 {a : Addr} : fldA Tryz.prog 51 0 a = some (.pointer (some (a.add 0))) := by kernel_rfl
@[go_sem] theorem fa51_1 {a : Addr} : fldA Tryz.prog 51 1 a = some (.pointer (some (a.add 1))) := by kernel_rfl
@[go_sem] theorem fa51_2 {a : Addr} : fldA Tryz.prog 51 2 a = some (.pointer (some (a.add 2))) := by kernel_rfl
@[go_sem] theorem fa51_3 {a : Addr} : fldA Tryz.prog 51 3 a = some (.pointer (some (a.add 3))) := by kernel_rfl
@[go_sem] theorem fa51_4 {a : Addr} : fldA Tryz.prog 51 4 a = some (.pointer (some (a.add 4))) := by kernel_rfl
@[go_sem] theorem fa51_5 {a : Addr} : fldA Tryz.prog 51 5 a = some (.pointer (some (a.add 5))) := by kernel_rfl
@[go_sem] theorem fa63_0 {a : Addr} : fldA Tryz.prog 63 0 a = some (.pointer (some (a.add 0))) := by kernel_rfl
@[go_sem] theorem fa63_1 {a : Addr} : fldA Tryz.prog 63 1 a = some (.pointer (some (a.add 1))) := by kernel_rfl
@[go_sem] theorem fa63_2 {a : Addr} : fldA Tryz.prog 63 2 a = some (.pointer (some (a.add 2))) := by kernel_rfl
@[go_sem] theorem fa82_0 {a : Addr} : fldA Tryz.prog 82 0 a = some (.pointer (some (a.add 0))) := by kernel_rfl
@[go_sem] theorem fa82_1 {a : Addr} : fldA Tryz.prog 82 1 a = some (.pointer (some (a.add 1))) := by kernel_rfl
@[go_sem] theorem fa82_2 {a : Addr} : fldA Tryz.prog 82 2 a = some (.pointer (some (a.add 2))) := by kernel_rfl
@[go_sem] theorem fa82_3 {a : Addr} : fldA Tryz.prog 82 3 a = some (.pointer (some (a.add 4))) := by kernel_rfl
@[go_sem] theorem fa104_0 {a : Addr} : fldA Tryz.prog 104 0 a = some (.pointer (some (a.add 0))) := by kernel_rfl
@[go_sem] theorem fa104_1 {a : Addr} : fldA Tryz.prog 104 1 a = some (.pointer (some (a.add 1))) := by kernel_rfl
@[go_sem] theorem fa104_2 {a : Addr} : fldA Tryz.prog 104 2 a = some (.pointer (some (a.add 2))) := by kernel_rfl
@[go_sem] theorem fa104_3 {a : Addr} : fldA Tryz.prog 104 3 a = some (.pointer (some (a.add 3))) := by kernel_rfl
@[go_sem] theorem fa104_4 {a : Addr} : fldA Tryz.prog 104 4 a = some (.pointer (some (a.add 4))) := by kernel_rfl
@[go_sem] theorem fa104_5 {a : Addr} : fldA Tryz.prog 104 5 a = some (.pointer (some (a.add 5))) := by kernel_rfl
@[go_sem] theorem fa107_0 {a : Addr} : fldA Tryz.prog 107 0 a = some (.pointer (some (a.add 0))) := by kernel_rfl
@[go_sem] theorem fa107_1 {a : Addr} : fldA Tryz.prog 107 1 a = some (.pointer (some (a.add 1))) := by kernel_rfl
@[go_sem] theorem fa130_0 {a : Addr} : fldA Tryz.prog 130 0 a = some (.pointer (some (a.add 0))) := by kernel_rfl
@[go_sem] theorem fa130_1 {a : Addr} : fldA Tryz.prog 130 1 a = some (.pointer (some (a.add 1))) := by kernel_rfl
@[go_sem] theorem fa130_2 {a : Addr} : fldA Tryz.prog 130 2 a = some (.pointer (some (a.add 2))) := by kernel_rfl
@[go_sem] theorem fa130_3 {a : Addr} : fldA Tryz.prog 130 3 a = some (.pointer (some (a.add 3))) := by kernel_rfl
@[go_sem] theorem fa130_4 {a : Addr} : fldA Tryz.prog 130 4 a = some (.pointer (some (a.add 4))) := by kernel_rfl
@[go_sem] theorem fa135_0 {a : Addr} : fldA Tryz.prog 135 0 a = some (.pointer (some (a.add 0))) := by kernel_rfl
@[go_sem] theorem fa135_1 {a : Addr} : fldA Tryz.prog 135 1 a = some (.pointer (some (a.add 1))) := by kernel_rfl
@[go_sem] theorem fa135_2 {a : Addr} : fldA Tryz.prog 135 2 a = some (.pointer (some (a.add 2))) := by kernel_rfl
@[go_sem] theorem fa135_3 {a : Addr} : fldA Tryz.prog 135 3 a = some (.pointer (some (a.add 3))) := by kernel_rfl
@[go_sem] theorem fa135_4 {a : Addr} : fldA Tryz.prog 135 4 a = some (.pointer (some (a.add 4))) := by kernel_rfl
@[go_sem] theorem fa135_5 {a : Addr} : fldA Tryz.prog 135 5 a = some (.pointer (some (a.add 5))) := by kernel_rfl
@[go_sem] theorem fa137_0 {a : Addr} : fldA Tryz.prog 137 0 a = some (.pointer (some (a.add 0))) := by kernel_rfl
@[go_sem] theorem fa137_1 {a : Addr} : fldA Tryz.prog 137 1 a = some (.pointer (some (a.add 1))) := by kernel_rfl
@[go_sem] theorem fa137_2 {a : Addr} : fldA Tryz.prog 137 2 a = some (.pointer (some (a.add 2))) := by kernel_rfl
@[go_sem] theorem fa137_3 {a : Addr} : fldA Tryz.prog 137 3 a = some (.pointer (some (a.add 4))) := by kernel_rfl
@[go_sem] theorem fa137_4 {a : Addr} : fldA Tryz.prog 137 4 a = some (.pointer (some (a.add 5))) := by kernel_rfl
@[go_sem] theorem fa137_5 {a : Addr} : fldA Tryz.prog 137 5 a = some (.pointer (some (a.add 6))) := by kernel_rfl
@[go_sem] theorem fa159_0 {a : Addr} : fldA Tryz.prog 159 0 a = some (.pointer (some (a.add 0))) := by kernel_rfl
@[go_sem] theorem fa189_0 {a : Addr} : fldA Tryz.prog 189 0 a = some (.pointer (some (a.add 0))) := by kernel_rfl
@[go_sem] theorem fa189_1 {a : Addr} : fldA Tryz.prog 189 1 a = some (.pointer (some (a.add 1))) := by kernel_rfl
@[go_sem] theorem fa189_2 {a : Addr} : fldA Tryz.prog 189 2 a = some (.pointer (some (a.add 2))) := by kernel_rfl
@[go_sem] theorem fa189_3 {a : Addr} : fldA Tryz.prog 189 3 a = some (.pointer (some (a.add 3))) := by kernel_rfl
@[go_sem] theorem fa189_4 {a : Addr} : fldA Tryz.prog 189 4 a = some (.pointer (some (a.add 4))) := by kernel_rfl
@[go_sem] theorem fa212_0 {a : Addr} : fldA Tryz.prog 212 0 a = some (.pointer (some (a.add 0))) := by kernel_rfl
@[go_sem] theorem fa212_1 {a : Addr} : fldA Tryz.prog 212 1 a = some (.pointer (some (a.add 1))) := by kernel_rfl
@[go_sem] theorem fa212_2 {a : Addr} : fldA Tryz.prog 212 2 a = some (.pointer (some (a.add 2))) := by kernel_rfl
@[go_sem] theorem fa212_3 {a : Addr} : fldA Tryz.prog 212 3 a = some (.pointer (some (a.add 3))) := by kernel_rfl
@[go_sem] theorem fa212_4 {a : Addr} : fldA Tryz.prog 212 4 a = some (.pointer (some (a.add 9))) := by kernel_rfl
@[go_sem] theorem fa212_5 {a : Addr} : fldA Tryz.prog 212 5 a = some (.pointer (some (a.add 14))) := by kernel_rfl
@[go_sem] theorem fa212_6 {a : Addr} : fldA Tryz.prog 212 6 a = some (.pointer (some (a.add 15))) := by kernel_rfl
@[go_sem] theorem fa220_0 {a : Addr} : fldA Tryz.prog 220 0 a = some (.pointer (some (a.add 0))) := by kernel_rfl
@[go_sem] theorem fa220_1 {a : Addr} : fldA Tryz.prog 220 1 a = some (.pointer (some (a.add 1))) := by kernel_rfl
@[go_sem] theorem fa220_2 {a : Addr} : fldA Tryz.prog 220 2 a = some (.pointer (some (a.add 4))) := by kernel_rfl
@[go_sem] theorem fa220_3 {a : Addr} : fldA Tryz.prog 220 3 a = some (.pointer (some (a.add 5))) := by kernel_rfl
@[go_sem] theorem fa220_4 {a : Addr} : fldA Tryz.prog 220 4 a = some (.pointer (some (a.add 6))) := by kernel_rfl
@[go_sem] theorem fa220_5 {a : Addr} : fldA Tryz.prog 220 5 a = some (.pointer (some (a.add 7))) := by kernel_rfl
@[go_sem] theorem fa220_6 {a : Addr} : fldA Tryz.prog 220 6 a = some (.pointer (some (a.add 8))) := by kernel_rfl
@[go_sem] theorem fa224_0 {a : Addr} : fldA Tryz.prog 224 0 a = some (.pointer (some (a.add 0))) := by kernel_rfl
@[go_sem] theorem fa224_1 {a : Addr} : fldA Tryz.prog 224 1 a = some (.pointer (some (a.add 2))) := by kernel_rfl
@[go_sem] theorem fa224_2 {a : Addr} : fldA Tryz.prog 224 2 a = some (.pointer (some (a.add 3))) := by kernel_rfl
@[go_sem] theorem fa224_3 {a : Addr} : fldA Tryz.prog 224 3 a = some (.pointer (some (a.add 4))) := by kernel_rfl
@[go_sem] theorem fa244_0 {a : Addr} : fldA Tryz.prog 244 0 a = some (.pointer (some (a.add 0))) := by kernel_rfl
@[go_sem] theorem fa244_1 {a : Addr} : fldA Tryz.prog 244 1 a = some (.pointer (some (a.add 1))) := by kernel_rfl
@[go_sem] theorem bu104_0_3_5 {x0 : ByteArray} {x3b : Option Addr} {x3l x3c : Nat} {x5b : Option Addr} {x5l x5c : Nat} : buildE Tryz.prog 104 [(0, (.string x0)), (3, (.slice x3b x3l x3c)), (5, (.slice x5b x5l x5c))] = some [(.string x0), (.int .i64 0), (.int .i64 0), (.slice x3b x3l x3c), (.slice none 0 0), (.slice x5b x5l x5c)] := by kernel_rfl
@[go_sem] theorem bu107_0_1 {x0 : Int} {x1 : Int} : buildE Tryz.prog 107 [(0, (.int .i64 x0)), (1, (.int .i64 x1))] = some [(.int .i64 x0), (.int .i64 x1)] := by kernel_rfl
@[go_sem] theorem bu130_0_2 {x0 : Int} {x2 : Int} : buildE Tryz.prog 130 [(0, (.int .i64 x0)), (2, (.int .i64 x2))] = some [(.int .i64 x0), (.slice none 0 0), (.int .i64 x2), (.int .i64 0), (.string ⟨#[]⟩)] := by kernel_rfl
@[go_sem] theorem bu130_0_4 {x0 : Int} {x4 : ByteArray} : buildE Tryz.prog 130 [(0, (.int .i64 x0)), (4, (.string x4))] = some [(.int .i64 x0), (.slice none 0 0), (.int .i64 0), (.int .i64 0), (.string x4)] := by kernel_rfl
@[go_sem] theorem bu130_0_1 {x0 : Int} {x1b : Option Addr} {x1l x1c : Nat} : buildE Tryz.prog 130 [(0, (.int .i64 x0)), (1, (.slice x1b x1l x1c))] = some [(.int .i64 x0), (.slice x1b x1l x1c), (.int .i64 0), (.int .i64 0), (.string ⟨#[]⟩)] := by kernel_rfl
@[go_sem] theorem bu135_  : buildE Tryz.prog 135 [] = some [(.string ⟨#[]⟩), (.string ⟨#[]⟩), (.slice none 0 0), (.slice none 0 0), (.slice none 0 0), (.int .i64 0)] := by kernel_rfl
@[go_sem] theorem bu135_0_1_2_3 {x0 : ByteArray} {x1 : ByteArray} {x2b : Option Addr} {x2l x2c : Nat} {x3b : Option Addr} {x3l x3c : Nat} : buildE Tryz.prog 135 [(0, (.string x0)), (1, (.string x1)), (2, (.slice x2b x2l x2c)), (3, (.slice x3b x3l x3c))] = some [(.string x0), (.string x1), (.slice x2b x2l x2c), (.slice x3b x3l x3c), (.slice none 0 0), (.int .i64 0)] := by kernel_rfl
@[go_sem] theorem bu137_0_1_2_3_4_5 {x0 : Int} {x1 : ByteArray} {x2_0 : Int} {x2_1 : Int} {x3 : Int} {x4 : Int} {x5 : Int} : buildE Tryz.prog 137 [(0, (.int .i64 x0)), (1, (.string x1)), (2, (.agg #[(.int .i64 x2_0), (.int .i64 x2_1)])), (3, (.int .i64 x3)), (4, (.int .i64 x4)), (5, (.int .i64 x5))] = some [(.int .i64 x0), (.string x1), (.int .i64 x2_0), (.int .i64 x2_1), (.int .i64 x3), (.int .i64 x4), (.int .i64 x5)] := by kernel_rfl
@[go_sem] theorem bu159_0 {x0b : Option Addr} {x0l x0c : Nat} : buildE Tryz.prog 159 [(0, (.slice x0b x0l x0c))] = some [(.slice x0b x0l x0c), (.int .i64 0), (.slice none 0 0), (.slice none 0 0), (.slice none 0 0), (.slice none 0 0)] := by kernel_rfl
@[go_sem] theorem bu189_  : buildE Tryz.prog 189 [] = some [(.string ⟨#[]⟩), (.int .i64 0), (.int .i64 0), (.bool false), (.slice none 0 0)] := by kernel_rfl
@[go_sem] theorem bu220_0_1_2_4_5_6 {x0b : Option Addr} {x0l x0c : Nat} {x1_0 : Int} {x1_1b : Option Addr} {x1_1l x1_1c : Nat} {x1_2b : Option Addr} {x1_2l x1_2c : Nat} {x2 : Nat} {x4 : Nat} {x5 : Nat} {x6 : Nat} : buildE Tryz.prog 220 [(0, (.slice x0b x0l x0c)), (1, (.agg #[(.int .i64 x1_0), (.slice x1_1b x1_1l x1_1c), (.slice x1_2b x1_2l x1_2c)])), (2, (.map (some x2))), (4, (.map (some x4))), (5, (.map (some x5))), (6, (.map (some x6)))] = some [(.slice x0b x0l x0c), (.int .i64 x1_0), (.slice x1_1b x1_1l x1_1c), (.slice x1_2b x1_2l x1_2c), (.map (some x2)), (.slice none 0 0), (.map (some x4)), (.map (some x5)), (.map (some x6))] := by kernel_rfl
@[go_sem] theorem bu224_0_1_2_3 {x0_0 : ByteArray} {x0_1 : ByteArray} {x1 : Int} {x2 : Int} {x3_0 : ByteArray} {x3_1 : ByteArray} {x3_2b : Option Addr} {x3_2l x3_2c : Nat} {x3_3b : Option Addr} {x3_3l x3_3c : Nat} {x3_4b : Option Addr} {x3_4l x3_4c : Nat} {x3_5 : Int} : buildE Tryz.prog 224 [(0, (.agg #[(.string x0_0), (.string x0_1)])), (1, (.int .i64 x1)), (2, (.int .i64 x2)), (3, (.agg #[(.string x3_0), (.string x3_1), (.slice x3_2b x3_2l x3_2c), (.slice x3_3b x3_3l x3_3c), (.slice x3_4b x3_4l x3_4c), (.int .i64 x3_5)]))] = some [(.string x0_0), (.string x0_1), (.int .i64 x1), (.int .i64 x2), (.string x3_0), (.string x3_1), (.slice x3_2b x3_2l x3_2c), (.slice x3_3b x3_3l x3_3c), (.slice x3_4b x3_4l x3_4c), (.int .i64 x3_5)] := by kernel_rfl
@[go_sem] theorem bu227_0_1 {x0 : Int} {x1 : ByteArray} : buildE Tryz.prog 227 [(0, (.int .i64 x0)), (1, (.string x1))] = some [(.int .i64 x0), (.string x1)] := by kernel_rfl
@[go_sem] theorem bu23_  : buildE Tryz.prog 23 [] = some [(.int .i64 0), (.int .i64 0)] := by kernel_rfl
@[go_sem] theorem bu23_0 {x0 : Int} : buildE Tryz.prog 23 [(0, (.int .i64 x0))] = some [(.int .i64 x0), (.int .i64 0)] := by kernel_rfl
@[go_sem] theorem bu23_0_1 {x0 : Int} {x1 : Int} : buildE Tryz.prog 23 [(0, (.int .i64 x0)), (1, (.int .i64 x1))] = some [(.int .i64 x0), (.int .i64 x1)] := by kernel_rfl
@[go_sem] theorem bu26_  : buildE Tryz.prog 26 [] = some [(.string ⟨#[]⟩), (.string ⟨#[]⟩)] := by kernel_rfl
@[go_sem] theorem bu26_0_1 {x0 : ByteArray} {x1 : ByteArray} : buildE Tryz.prog 26 [(0, (.string x0)), (1, (.string x1))] = some [(.string x0), (.string x1)] := by kernel_rfl
@[go_sem] theorem bu45_  : buildE Tryz.prog 45 [] = some [(.int .i64 0), (.slice none 0 0), (.slice none 0 0)] := by kernel_rfl
@[go_sem] theorem bu45_0_1 {x0 : Int} {x1b : Option Addr} {x1l x1c : Nat} : buildE Tryz.prog 45 [(0, (.int .i64 x0)), (1, (.slice x1b x1l x1c))] = some [(.int .i64 x0), (.slice x1b x1l x1c), (.slice none 0 0)] := by kernel_rfl
@[go_sem] theorem bu49_0_1 {x0 : Int} {x1 : ByteArray} : buildE Tryz.prog 49 [(0, (.int .i64 x0)), (1, (.string x1))] = some [(.int .i64 x0), (.string x1), (.int .i64 0), (.int .i64 0)] := by kernel_rfl
@[go_sem] theorem bu49_0_1_2 {x0 : Int} {x1 : ByteArray} {x2_0 : Int} {x2_1 : Int} : buildE Tryz.prog 49 [(0, (.int .i64 x0)), (1, (.string x1)), (2, (.agg #[(.int .i64 x2_0), (.int .i64 x2_1)]))] = some [(.int .i64 x0), (.string x1), (.int .i64 x2_0), (.int .i64 x2_1)] := by kernel_rfl
@[go_sem] theorem bu51_  : buildE Tryz.prog 51 [] = some [(.string ⟨#[]⟩), (.int .i64 0), (.bool false), (.int .i64 0), (.int .i64 0), (.int .i64 0), (.int .i64 0)] := by kernel_rfl
@[go_sem] theorem bu51_0_1_2_3_4 {x0 : ByteArray} {x1 : Int} {x2 : Bool} {x3 : Int} {x4 : Int} : buildE Tryz.prog 51 [(0, (.string x0)), (1, (.int .i64 x1)), (2, (.bool x2)), (3, (.int .i64 x3)), (4, (.int .i64 x4))] = some [(.string x0), (.int .i64 x1), (.bool x2), (.int .i64 x3), (.int .i64 x4), (.int .i64 0), (.int .i64 0)] := by kernel_rfl
@[go_sem] theorem bu51_0_1 {x0 : ByteArray} {x1 : Int} : buildE Tryz.prog 51 [(0, (.string x0)), (1, (.int .i64 x1))] = some [(.string x0), (.int .i64 x1), (.bool false), (.int .i64 0), (.int .i64 0), (.int .i64 0), (.int .i64 0)] := by kernel_rfl
@[go_sem] theorem bu63_0_1_2 {x0 : Int} {x1b : Option Addr} {x1l x1c : Nat} {x2b : Option Addr} {x2l x2c : Nat} : buildE Tryz.prog 63 [(0, (.int .i64 x0)), (1, (.slice x1b x1l x1c)), (2, (.slice x2b x2l x2c))] = some [(.int .i64 x0), (.slice x1b x1l x1c), (.slice x2b x2l x2c)] := by kernel_rfl
@[go_sem] theorem bu71_0_1_2_3 {x0 : Int} {x1 : Int} {x2 : Int} {x3 : Int} : buildE Tryz.prog 71 [(0, (.int .i64 x0)), (1, (.int .i64 x1)), (2, (.int .i64 x2)), (3, (.int .i64 x3))] = some [(.int .i64 x0), (.int .i64 x1), (.int .i64 x2), (.int .i64 x3)] := by kernel_rfl
@[go_sem] theorem bu82_0_1 {x0 : Int} {x1 : ByteArray} : buildE Tryz.prog 82 [(0, (.int .i64 x0)), (1, (.string x1))] = some [(.int .i64 x0), (.string x1), (.int .i64 0), (.int .i64 0), (.int .i64 0), (.int .i64 0)] := by kernel_rfl
@[go_sem] theorem bu82_0_1_2_3 {x0 : Int} {x1 : ByteArray} {x2_0 : Int} {x2_1 : Int} {x3_0 : Int} {x3_1 : Int} : buildE Tryz.prog 82 [(0, (.int .i64 x0)), (1, (.string x1)), (2, (.agg #[(.int .i64 x2_0), (.int .i64 x2_1)])), (3, (.agg #[(.int .i64 x3_0), (.int .i64 x3_1)]))] = some [(.int .i64 x0), (.string x1), (.int .i64 x2_0), (.int .i64 x2_1), (.int .i64 x3_0), (.int .i64 x3_1)] := by kernel_rfl
end Go.Ev
