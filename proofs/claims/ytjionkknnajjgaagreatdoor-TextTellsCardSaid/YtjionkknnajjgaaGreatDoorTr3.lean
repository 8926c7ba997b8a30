/- Trees, printed by program. -/
import Derived.Test.YtjionkknnajjgaaGreatDoorTr0
import Derived.KernelRfl
set_option linter.unusedVariables false
namespace Go.Proofs.YtjionkknnajjgaaGreatDoor
open Go.Flat
theorem strings_Builder_WriteString_eq (n:Nat) (x0:List UInt8) (x1:List UInt8):strings_Builder_WriteString (n+1) x0 x1=gWriteString x0 x1:=by
    have h:strings_Builder_WriteString (n+1) x0 x1=Option.bind (gWriteString x0 x1) (fun z=>some z):=by kernel_rfl
    rw[h];cases gWriteString x0 x1<;>rfl
theorem strings_Builder_WriteByte_eq (n:Nat) (x0:List UInt8) (x1:Int):strings_Builder_WriteByte (n+1) x0 x1=gWriteByte x0 x1:=by
    have h:strings_Builder_WriteByte (n+1) x0 x1=Option.bind (gWriteByte x0 x1) (fun z=>some z):=by kernel_rfl
    rw[h];cases gWriteByte x0 x1<;>rfl
theorem strings_Builder_String_eq (n:Nat) (x0:List UInt8):strings_Builder_String (n+1) x0=some (x0,x0):=by kernel_rfl
theorem text_lines_eq (n:Nat) (x0:List UInt8):text_lines (n+1) x0=gLines x0:=by
    have h:text_lines (n+1) x0=Option.bind (gLines x0) (fun z=>some z):=by kernel_rfl
    rw[h];cases gLines x0<;>rfl
theorem strconv_ParseUint_eq (n:Nat) (x0:List UInt8) (x1:Int) (x2:Int):strconv_ParseUint (n+1) x0 x1 x2=gParseUint x0 x1 x2:=by
    have h:strconv_ParseUint (n+1) x0 x1 x2=Option.bind (gParseUint x0 x1 x2) (fun z=>some z):=by kernel_rfl
    rw[h];cases gParseUint x0 x1 x2<;>rfl
theorem strconv_ParseInt_eq (n:Nat) (x0:List UInt8) (x1:Int) (x2:Int):strconv_ParseInt (n+1) x0 x1 x2=gParseInt x0 x1 x2:=by
    have h:strconv_ParseInt (n+1) x0 x1 x2=Option.bind (gParseInt x0 x1 x2) (fun z=>some z):=by kernel_rfl
    rw[h];cases gParseInt x0 x1 x2<;>rfl
theorem stringslite_Index_eq (n:Nat) (x0:List UInt8) (x1:List UInt8):stringslite_Index (n+1) x0 x1=gIndex x0 x1:=by
    have h:stringslite_Index (n+1) x0 x1=Option.bind (gIndex x0 x1) (fun z=>some z):=by kernel_rfl
    rw[h];cases gIndex x0 x1<;>rfl
theorem strings_Count_eq (n:Nat) (x0:List UInt8) (x1:List UInt8):strings_Count (n+1) x0 x1=gCount x0 x1:=by
    have h:strings_Count (n+1) x0 x1=Option.bind (gCount x0 x1) (fun z=>some z):=by kernel_rfl
    rw[h];cases gCount x0 x1<;>rfl
end Go.Proofs.YtjionkknnajjgaaGreatDoor
