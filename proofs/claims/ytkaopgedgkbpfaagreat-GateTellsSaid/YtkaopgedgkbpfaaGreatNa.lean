/- Proved here: what functions of the program compute, each by a contract over its translation (rules of the walk, or contracts function by function). No conditions beyond those that each contract states. -/
import Derived.Test.YtkaopgedgkbpfaaGreatWb
import Derived.Test.YtkaopgedgkbpfaaGreatProg
import Derived.Laws.LoneSync
namespace Go.Proofs.Tz
open Go.W
noncomputable abbrev P : Program := Tryz.prog
theorem plain : Plain P := by
  have h : P.funcs.toList.all (fun fn => !(fn.name == "runtime.NumGoroutine")) = true := by kernel_rfl
  intro f fn hf
  have := List.all_eq_true.1 h fn (Array.mem_toList_iff.2 (Array.mem_of_getElem? hf))
  simpa using this
theorem mixed : P.follows .mixedOrders = true := by kernel_rfl
abbrev Ld := Go.W.Ld P
abbrev Sto := Go.W.Sto P
abbrev Al := Go.W.Al P
abbrev Bx := Go.W.Bx P
abbrev Bs := Go.W.Bs P
abbrev Mk := Go.W.Mk P
abbrev Slc := Go.W.Slc P
abbrev Ap := Go.W.Ap P
abbrev Cp := Go.W.Cp P
abbrev Clr := Go.W.Clr P
abbrev Del := Go.W.Del P
abbrev Cv := Go.W.Cv P
abbrev Bin := Go.W.Bin P
end Go.Proofs.Tz
namespace Go.Proofs.Tz
open Go.W
abbrev k_main_main : FuncId := 0
abbrev k_gosem_cut : FuncId := 1
abbrev k_gosem_cut_init : FuncId := 2
abbrev k_cfllaw15_GateTells : FuncId := 3
abbrev k_cfllaw15_GatePlays : FuncId := 4
abbrev k_cfllaw15_first : FuncId := 5
abbrev k_sha_NewTable : FuncId := 6
abbrev k_gate_Split : FuncId := 7
abbrev k_cflref13_Split : FuncId := 8
abbrev k_cflref_Bytes : FuncId := 9
abbrev k_gate_Keys : FuncId := 10
abbrev k_cflref13_Keys : FuncId := 11
abbrev k_gate_Stamp : FuncId := 12
abbrev k_cflref13_Stamp : FuncId := 13
abbrev k_gate_Receipt : FuncId := 14
abbrev k_cflref13_Receipt : FuncId := 15
abbrev k_cfllaw9_Few : FuncId := 16
abbrev k_cflref9_Check : FuncId := 17
abbrev k_disk_New : FuncId := 18
abbrev k_cflref13_Need : FuncId := 19
abbrev k_cflref6_NewDisk : FuncId := 20
abbrev k_vault_Open : FuncId := 21
abbrev k_cflref13_Open : FuncId := 22
abbrev k_meter_New : FuncId := 23
abbrev k_gate_New : FuncId := 24
abbrev k_cflref13_Seal : FuncId := 25
abbrev k_cfllaw15_turned : FuncId := 26
abbrev k_gate_Gate_Take : FuncId := 27
abbrev k_cflref13_Gate_Take : FuncId := 28
abbrev k_cflref_Ints : FuncId := 29
abbrev k_meter_Meter_All : FuncId := 30
abbrev k_vault_Vault_Ledger : FuncId := 31
abbrev k_cflref9_SameEvents : FuncId := 32
abbrev k_ledger_Ledger_Events : FuncId := 33
abbrev k_vault_Need : FuncId := 34
abbrev k_meter_Meter_Get : FuncId := 35
abbrev k_bytes_Clone : FuncId := 36
abbrev k_cflref_CopyBytes : FuncId := 37
abbrev k_mac_Key : FuncId := 38
abbrev k_cflref1_Key : FuncId := 39
abbrev k_mac_One : FuncId := 40
abbrev k_cflref1_Put : FuncId := 41
abbrev k_cflref1_Mac : FuncId := 42
abbrev k_cflref9_NewPurse : FuncId := 43
abbrev k_cflref6_Sectors : FuncId := 44
abbrev k_ledger_Check : FuncId := 45
abbrev k_disk_Disk_Len : FuncId := 46
abbrev k_journal_Open : FuncId := 47
abbrev k_ledger_New : FuncId := 48
abbrev k_journal_Journal_Picture : FuncId := 49
abbrev k_vault_Vault_loads : FuncId := 50
abbrev k_journal_Journal_Records : FuncId := 51
abbrev k_vault_Vault_again : FuncId := 52
abbrev k_cflref9_NewLedger : FuncId := 53
abbrev k_cflref6_Disk_Len : FuncId := 54
abbrev k_cflref6_Open : FuncId := 55
abbrev k_cflref13_Vault_load : FuncId := 56
abbrev k_cflref13_Vault_record : FuncId := 57
abbrev k_cflref13_head : FuncId := 58
abbrev k_seal_Peek : FuncId := 59
abbrev k_gate_Gate_bad : FuncId := 60
abbrev k_vault_Vault_Parties : FuncId := 61
abbrev k_seal_Open : FuncId := 62
abbrev k_vault_Vault_Handle : FuncId := 63
abbrev k_seal_Seal : FuncId := 64
abbrev k_meter_Meter_Add : FuncId := 65
abbrev k_cflref13_Peek : FuncId := 66
abbrev k_cflref13_OpenNote : FuncId := 67
abbrev k_cflref13_Vault_Handle : FuncId := 68
abbrev k_frame_Sectors : FuncId := 69
abbrev k_meter_has : FuncId := 70
abbrev k_sync_atomic_Int64_Load : FuncId := 71
abbrev k_mac_New : FuncId := 72
abbrev k_mac_Mac_Write : FuncId := 73
abbrev k_mac_Mac_Sum : FuncId := 74
abbrev k_cflref1_Hash : FuncId := 75
abbrev k_cflref_CopyInts : FuncId := 76
abbrev k_cflref1_Sum : FuncId := 77
abbrev k_purse_New : FuncId := 78
abbrev k_disk_Disk_Down : FuncId := 79
abbrev k_journal_Journal_read : FuncId := 80
abbrev k_journal_Journal_takes : FuncId := 81
abbrev k_journal_Journal_follows : FuncId := 82
abbrev k_escrow_New : FuncId := 83
abbrev k_wire_NewDec : FuncId := 84
abbrev k_wire_Dec_Num : FuncId := 85
abbrev k_ledger_Load : FuncId := 86
abbrev k_wire_Dec_Err : FuncId := 87
abbrev k_ledger_Ledger_Clock : FuncId := 88
abbrev k_wire_Dec_End : FuncId := 89
abbrev k_req_DecodeBatch : FuncId := 90
abbrev k_num_Tick : FuncId := 91
abbrev k_vault_Vault_applies : FuncId := 92
abbrev k_cflref6_Journal_head : FuncId := 93
abbrev k_cflref6_Get : FuncId := 94
abbrev k_cflref6_Journal_text : FuncId := 95
abbrev k_cflref9_Load : FuncId := 96
abbrev k_cflref1_Dec_Raw : FuncId := 97
abbrev k_cflref1_Dec_Num : FuncId := 98
abbrev k_cflref13_Vault_picture : FuncId := 99
abbrev k_cflref1_Dec_End : FuncId := 100
abbrev k_cflref9_DecodeBatch : FuncId := 101
abbrev k_cflref1_Tick : FuncId := 102
abbrev k_cflref13_Vault_apply : FuncId := 103
abbrev k_cflref1_Enc_Raw : FuncId := 104
abbrev k_cflref1_Enc_Num : FuncId := 105
abbrev k_seal_split : FuncId := 106
abbrev k_mac_Equal : FuncId := 107
abbrev k_vault_Vault_tells : FuncId := 108
abbrev k_wire_NewEnc : FuncId := 109
abbrev k_wire_Enc_Num : FuncId := 110
abbrev k_wire_Enc_Done : FuncId := 111
abbrev k_vault_Vault_lays : FuncId := 112
abbrev k_sync_atomic_Int64_Add : FuncId := 113
abbrev k_cflref9_EncodeAnswer : FuncId := 114
abbrev k_cflref6_Journal_Append : FuncId := 115
abbrev k_cflref6_Journal_Compact : FuncId := 116
abbrev k_sync_atomic_LoadInt64 : FuncId := 117
abbrev k_sha_One : FuncId := 118
abbrev k_mac_padded : FuncId := 119
abbrev k_sha_New : FuncId := 120
abbrev k_sha_Hash_Write : FuncId := 121
abbrev k_sha_Hash_Sum : FuncId := 122
abbrev k_cflref1_words : FuncId := 123
abbrev k_cflref1_starts : FuncId := 124
abbrev k_cflref1_block : FuncId := 125
abbrev k_cflref1_Add : FuncId := 126
abbrev k_purse_may : FuncId := 127
abbrev k_purse_Purse_Copy : FuncId := 128
abbrev k_sync_atomic_Bool_Load : FuncId := 129
abbrev k_journal_Journal_size : FuncId := 130
abbrev k_disk_Disk_Read : FuncId := 131
abbrev k_frame_Get : FuncId := 132
abbrev k_slices_Clone_Sbyte_byte : FuncId := 133
abbrev k_wire_number : FuncId := 134
abbrev k_req_DecodeEvent : FuncId := 135
abbrev k_ledger_Ledger_again : FuncId := 136
abbrev k_ledger_Ledger_Apply : FuncId := 137
abbrev k_ledger_Ledger_Save : FuncId := 138
abbrev k_bytes_Equal : FuncId := 139
abbrev k_req_in_num : FuncId := 140
abbrev k_req_in_event : FuncId := 141
abbrev k_req_Event_req : FuncId := 142
abbrev k_req_EncodeBatch : FuncId := 143
abbrev k_cflref6_Put : FuncId := 144
abbrev k_cflref6_Disk_Read : FuncId := 145
abbrev k_cflref9_GetEvent : FuncId := 146
abbrev k_cflref9_MayEvent : FuncId := 147
abbrev k_cflref9_Ledger_Apply : FuncId := 148
abbrev k_cflref9_Ledger_Save : FuncId := 149
abbrev k_cflref1_Enc_Done : FuncId := 150
abbrev k_cflref9_getReq : FuncId := 151
abbrev k_cflref9_EncodeBatch : FuncId := 152
abbrev k_cflref1_Fits : FuncId := 153
abbrev k_cflref1_Enc_fail : FuncId := 154
abbrev k_req_EncodeAnswer : FuncId := 155
abbrev k_wire_may : FuncId := 156
abbrev k_num_Amount : FuncId := 157
abbrev k_journal_Journal_Append : FuncId := 158
abbrev k_vault_Vault_picture : FuncId := 159
abbrev k_journal_Journal_Compact : FuncId := 160
abbrev k_sync_atomic_AddInt64 : FuncId := 161
abbrev k_cflref9_byte8 : FuncId := 162
abbrev k_cflref9_PutEvent : FuncId := 163
abbrev k_cflref6_Journal_Room : FuncId := 164
abbrev k_cflref6_Journal_lay : FuncId := 165
abbrev k_sha_Table_Start : FuncId := 166
abbrev k_sha_mix : FuncId := 167
abbrev k_sha_lays : FuncId := 168
abbrev k_slices_Chunk_Sbyte_byte : FuncId := 169
abbrev k_cflref1_turn : FuncId := 170
abbrev k_cflref1_Amount : FuncId := 171
abbrev k_slices_ContainsFunc_SSint_Sint : FuncId := 172
abbrev k_purse_may_1 : FuncId := 173
abbrev k_num_Sum : FuncId := 174
abbrev k_slices_Clone_Sint_int : FuncId := 175
abbrev k_sync_atomic_LoadUint32 : FuncId := 176
abbrev k_disk_Disk_sector : FuncId := 177
abbrev k_frame_lifts : FuncId := 178
abbrev k_frame_Put : FuncId := 179
abbrev k_req_EncodeEvent : FuncId := 180
abbrev k_ledger_Ledger_does : FuncId := 181
abbrev k_req_in_bytes : FuncId := 182
abbrev k_req_has : FuncId := 183
abbrev k_req_Event_number : FuncId := 184
abbrev k_req_Event_text : FuncId := 185
abbrev k_req_out_num : FuncId := 186
abbrev k_req_out_event : FuncId := 187
abbrev k_req_Req_event : FuncId := 188
abbrev k_req_out_done : FuncId := 189
abbrev k_cflref6_Text : FuncId := 190
abbrev k_cflref9_Ledger_one : FuncId := 191
abbrev k_cflref9_MayReq : FuncId := 192
abbrev k_cflref9_putReq : FuncId := 193
abbrev k_journal_Journal_Room : FuncId := 194
abbrev k_journal_Journal_lays : FuncId := 195
abbrev k_slices_Concat_Sbyte_byte : FuncId := 196
abbrev k_cflref6_Disk_Write : FuncId := 197
abbrev k_cflref6_Disk_Sync : FuncId := 198
abbrev k_sync_Once_Do : FuncId := 199
abbrev k_sha_Table_reckon : FuncId := 200
abbrev k_math_bits_RotateLeft32 : FuncId := 201
abbrev k_sha_Table_Word : FuncId := 202
abbrev k_slices_Chunk_Sbyte_byte_1 : FuncId := 203
abbrev k_slices_IndexFunc_SSint_Sint : FuncId := 204
abbrev k_num_Add : FuncId := 205
abbrev k_frame_text : FuncId := 206
abbrev k_escrow_Book_Purse : FuncId := 207
abbrev k_purse_Purse_Parties : FuncId := 208
abbrev k_ledger_Ledger_room : FuncId := 209
abbrev k_purse_Purse_Move : FuncId := 210
abbrev k_escrow_Book_Lock : FuncId := 211
abbrev k_escrow_Book_Claim : FuncId := 212
abbrev k_escrow_Book_Refund : FuncId := 213
abbrev k_cflref9_Ledger_full : FuncId := 214
abbrev k_cflref9_Purse_Move : FuncId := 215
abbrev k_cflref9_Book_Lock : FuncId := 216
abbrev k_cflref9_Book_Claim : FuncId := 217
abbrev k_cflref9_Book_Refund : FuncId := 218
abbrev k_disk_Disk_Write : FuncId := 219
abbrev k_disk_Disk_Sync : FuncId := 220
abbrev k_slices_Grow_Sbyte_byte : FuncId := 221
abbrev k_cflref6_Disk_burns : FuncId := 222
abbrev k_cflref6_Disk_dirty : FuncId := 223
abbrev k_sync_Once_doSlow : FuncId := 224
abbrev k_sha_prime : FuncId := 225
abbrev k_sha_root : FuncId := 226
abbrev k_sha_cube : FuncId := 227
abbrev k_sha_square : FuncId := 228
abbrev k_num_right : FuncId := 229
abbrev k_num_both : FuncId := 230
abbrev k_frame_starts : FuncId := 231
abbrev k_escrow_Book_Open : FuncId := 232
abbrev k_purse_Purse_has : FuncId := 233
abbrev k_escrow_Book_there : FuncId := 234
abbrev k_purse_Purse_Assets : FuncId := 235
abbrev k_purse_Purse_Take : FuncId := 236
abbrev k_escrow_Book_has : FuncId := 237
abbrev k_escrow_Book_closes : FuncId := 238
abbrev k_cflref9_Book_Open : FuncId := 239
abbrev k_cflref9_Purse_is : FuncId := 240
abbrev k_cflref9_Purse_Take : FuncId := 241
abbrev k_cflref9_Purse_Give : FuncId := 242
abbrev k_disk_Disk_burns : FuncId := 243
abbrev k_sync_Mutex_Lock : FuncId := 244
abbrev k_sync_Mutex_Unlock : FuncId := 245
abbrev k_sync_atomic_Bool_Store : FuncId := 246
abbrev k_math_bits_Mul64 : FuncId := 247
abbrev k_math_bits_Add64 : FuncId := 248
abbrev k_purse_Purse_Give : FuncId := 249
abbrev k_cflref9_Purse_Total : FuncId := 250
abbrev k_internal_sync_Mutex_Lock : FuncId := 251
abbrev k_internal_sync_Mutex_Unlock : FuncId := 252
abbrev k_sync_atomic_StoreUint32 : FuncId := 253
abbrev k_sync_atomic_b32 : FuncId := 254
abbrev k_purse_Purse_Total : FuncId := 255
abbrev k_cflref9_Purse_Has : FuncId := 256
abbrev k_internal_race_Disable : FuncId := 257
abbrev k_sync_atomic_CompareAndSwapInt32 : FuncId := 258
abbrev k_internal_race_Enable : FuncId := 259
abbrev k_internal_race_Acquire : FuncId := 260
abbrev k_internal_sync_Mutex_lockSlow : FuncId := 261
abbrev k_internal_race_ReleaseMerge : FuncId := 262
abbrev k_sync_atomic_AddInt32 : FuncId := 263
abbrev k_internal_sync_Mutex_unlockSlow : FuncId := 264
abbrev k_purse_Purse_Has : FuncId := 265
abbrev k_internal_sync_runtime_canSpin : FuncId := 266
abbrev k_internal_sync_runtime_doSpin : FuncId := 267
abbrev k_internal_sync_throw : FuncId := 268
abbrev k_internal_sync_runtime_nanotime : FuncId := 269
abbrev k_internal_sync_runtime_SemacquireMutex : FuncId := 270
abbrev k_internal_sync_fatal : FuncId := 271
abbrev k_internal_sync_runtime_Semrelease : FuncId := 272
abbrev k_runtime_boundsError_Error : FuncId := 273
abbrev k_runtime_boundsError_RuntimeError : FuncId := 274
abbrev k_runtime_errorString_Error : FuncId := 275
abbrev k_runtime_errorString_RuntimeError : FuncId := 276
abbrev k_runtime_plainError_Error : FuncId := 277
abbrev k_runtime_plainError_RuntimeError : FuncId := 278
abbrev k_runtime_errorAddressString_Error : FuncId := 279
abbrev k_runtime_errorAddressString_RuntimeError : FuncId := 280
abbrev k_runtime_TypeAssertionError_Error : FuncId := 281
abbrev k_runtime_TypeAssertionError_RuntimeError : FuncId := 282
abbrev k_runtime_PanicNilError_Error : FuncId := 283
abbrev k_runtime_PanicNilError_RuntimeError : FuncId := 284
abbrev k_internal_abi_Type_Align : FuncId := 285
abbrev k_internal_runtime_maps_unhashableTypeError_Error : FuncId := 286
abbrev k_internal_runtime_maps_unhashableTypeError_RuntimeError : FuncId := 287
abbrev k_cflref6_Disk_Fuse : FuncId := 288
abbrev k_vault_Vault_Down : FuncId := 289
abbrev k_cflref13_Vault_Last : FuncId := 290
abbrev k_journal_Journal_Gen : FuncId := 291
abbrev k_escrow_Book_Len : FuncId := 292
abbrev k_wire_Dec_Left : FuncId := 293
abbrev k_internal_abi_Kind_String : FuncId := 294
abbrev t_int64 : TypeId := 2
abbrev t_int : TypeId := 3
abbrev t_bool : TypeId := 4
abbrev t_uint8 : TypeId := 5
abbrev t_abi_BoundsErrorCode : TypeId := 6
abbrev t_runtime_boundsError : TypeId := 8
abbrev t_string : TypeId := 9
abbrev t_runtime_errorString : TypeId := 10
abbrev t_runtime_plainError : TypeId := 11
abbrev t_uintptr : TypeId := 12
abbrev t_runtime_errorAddressString : TypeId := 14
abbrev t_p_runtime_TypeAssertionError : TypeId := 15
abbrev t_p_runtime_PanicNilError : TypeId := 16
abbrev t_p_abi_Type : TypeId := 17
abbrev t_maps_unhashableTypeError : TypeId := 19
abbrev t_int32 : TypeId := 21
abbrev t_sl_uint8 : TypeId := 22
abbrev t_p_sha_Table : TypeId := 24
abbrev t_api_Errno : TypeId := 26
abbrev t_sl_sl_int : TypeId := 37
abbrev t_ledger_Conf : TypeId := 39
abbrev t_sl_cfllaw15_Op : TypeId := 40
abbrev t_cfllaw15_Op : TypeId := 42
abbrev t_p_disk_Disk : TypeId := 45
abbrev t_p_cflref6_Disk : TypeId := 49
abbrev t_p_vault_Vault : TypeId := 52
abbrev t_p_cflref13_Vault : TypeId := 55
abbrev t_p_meter_Meter : TypeId := 58
abbrev t_a8_int : TypeId := 60
abbrev t_p_gate_Gate : TypeId := 61
abbrev t_p_cflref13_Gate : TypeId := 63
abbrev t_p_a8_int : TypeId := 64
abbrev t_cflref13_Gate : TypeId := 66
abbrev t_seal_Note : TypeId := 70
abbrev t_sl_int : TypeId := 73
abbrev t_p_ledger_Ledger : TypeId := 75
abbrev t_sl_req_Event : TypeId := 78
abbrev t_p_cflref9_Book : TypeId := 80
abbrev t_cflref9_Ledger : TypeId := 82
abbrev t_p_cflref6_Journal : TypeId := 83
abbrev t_p_cflref9_Ledger : TypeId := 84
abbrev t_sl_req_Answer : TypeId := 85
abbrev t_cflref13_Vault : TypeId := 87
abbrev t_sync_noCopy : TypeId := 91
abbrev t_atomic_noCopy : TypeId := 92
abbrev t_uint32 : TypeId := 93
abbrev t_atomic_Bool : TypeId := 95
abbrev t_sync_Mutex : TypeId := 97
abbrev t_sync_Once : TypeId := 101
abbrev t_a64_uint32 : TypeId := 102
abbrev t_a8_uint32 : TypeId := 103
abbrev t_sha_Table : TypeId := 105
abbrev t_uint : TypeId := 107
abbrev t_p_cflref9_Purse : TypeId := 111
abbrev t_sl_sl_uint8 : TypeId := 114
abbrev t_m_int_sl_uint8 : TypeId := 115
abbrev t_disk_Disk : TypeId := 117
abbrev t_sl_string : TypeId := 118
abbrev t_cflref6_Disk : TypeId := 120
abbrev t_p_journal_Journal : TypeId := 122
abbrev t_sl_vault_last : TypeId := 124
abbrev t_vault_Vault : TypeId := 126
abbrev t_cflref6_Journal : TypeId := 138
abbrev t_atomic_align64 : TypeId := 139
abbrev t_atomic_Int64 : TypeId := 141
abbrev t_a8_atomic_Int64 : TypeId := 142
abbrev t_meter_Meter : TypeId := 144
abbrev t_gate_Gate : TypeId := 146
abbrev t_req_Event : TypeId := 158
abbrev t_p_escrow_Book : TypeId := 159
abbrev t_sl_ledger_done : TypeId := 160
abbrev t_ledger_Ledger : TypeId := 162
abbrev t_ledger_done : TypeId := 164
abbrev t_p_mac_Mac : TypeId := 167
abbrev t_cflref9_Purse : TypeId := 172
abbrev t_p_purse_Purse : TypeId := 176
abbrev t_journal_Journal : TypeId := 180
abbrev t_p_wire_Dec : TypeId := 184
abbrev t_p_vault_last : TypeId := 187
abbrev t_sl_req_Reply : TypeId := 188
abbrev t_req_Answer : TypeId := 190
abbrev t_vault_last : TypeId := 192
abbrev t_req_Reply : TypeId := 195
abbrev t_sl_req_Req : TypeId := 196
abbrev t_req_Batch : TypeId := 198
abbrev t_sl_escrow_Escrow : TypeId := 202
abbrev t_cflref9_Book : TypeId := 204
abbrev t_frame_Frame : TypeId := 206
abbrev t_p_cflref1_Dec : TypeId := 211
abbrev t_cflref1_Dec : TypeId := 213
abbrev t_p_cflref1_Enc : TypeId := 216
abbrev t_cflref1_Enc : TypeId := 217
abbrev t_p_wire_Enc : TypeId := 221
abbrev t_p_atomic_Int64 : TypeId := 226
abbrev t_p_int64 : TypeId := 228
abbrev t_p_sha_Hash : TypeId := 231
abbrev t_mac_Mac : TypeId := 234
abbrev t_uint64 : TypeId := 237
abbrev t_sl_uint32 : TypeId := 239
abbrev t_purse_Purse : TypeId := 242
abbrev t_escrow_Book : TypeId := 246
abbrev t_wire_Dec : TypeId := 248
abbrev t_p_req_in : TypeId := 254
abbrev t_req_in : TypeId := 256
abbrev t_req_Req : TypeId := 258
abbrev t_wire_Enc : TypeId := 267
abbrev t_sha_Hash : TypeId := 272
abbrev t_p_a8_uint32 : TypeId := 275
abbrev t_iter_Seq_uint8_ : TypeId := 278
abbrev t_p_atomic_Bool : TypeId := 284
abbrev t_p_uint32 : TypeId := 286
abbrev t_p_int : TypeId := 294
abbrev t_p_string : TypeId := 297
abbrev t_req_out : TypeId := 299
abbrev t_p_req_Event : TypeId := 315
abbrev t_p_req_out : TypeId := 316
abbrev t_p_sync_Once : TypeId := 318
abbrev t_escrow_Escrow : TypeId := 325
abbrev t_p_escrow_Escrow : TypeId := 326
abbrev t_p_sync_Mutex : TypeId := 332
abbrev t_p_int32 : TypeId := 338
abbrev t_runtime_TypeAssertionError : TypeId := 347
abbrev t_a0_p_runtime_PanicNilError : TypeId := 348
abbrev t_runtime_PanicNilError : TypeId := 350
abbrev t_abi_TFlag : TypeId := 351
abbrev t_abi_Kind : TypeId := 352
abbrev t_p_uint8 : TypeId := 354
abbrev t_abi_NameOff : TypeId := 355
abbrev t_abi_TypeOff : TypeId := 356
abbrev t_abi_Type : TypeId := 358
instance : Sc P 2 := ⟨fun _ => by kernel_rfl, fun _ => by kernel_rfl⟩
instance : Zr P 2 ([Value.int .i64 0]) := ⟨fun _ => ⟨Value.int .i64 0, by kernel_rfl, by kernel_rfl⟩⟩
instance : Sc P 3 := ⟨fun _ => by kernel_rfl, fun _ => by kernel_rfl⟩
instance : Zr P 3 ([Value.int .i64 0]) := ⟨fun _ => ⟨Value.int .i64 0, by kernel_rfl, by kernel_rfl⟩⟩
instance : Sc P 4 := ⟨fun _ => by kernel_rfl, fun _ => by kernel_rfl⟩
instance : Zr P 4 ([Value.bool false]) := ⟨fun _ => ⟨Value.bool false, by kernel_rfl, by kernel_rfl⟩⟩
instance : Sc P 5 := ⟨fun _ => by kernel_rfl, fun _ => by kernel_rfl⟩
instance : Zr P 5 ([Value.int .u8 0]) := ⟨fun _ => ⟨Value.int .u8 0, by kernel_rfl, by kernel_rfl⟩⟩
instance : Sc P 9 := ⟨fun _ => by kernel_rfl, fun _ => by kernel_rfl⟩
instance : Zr P 9 ([Value.string ⟨#[]⟩]) := ⟨fun _ => ⟨Value.string ⟨#[]⟩, by kernel_rfl, by kernel_rfl⟩⟩
instance : Sc P 21 := ⟨fun _ => by kernel_rfl, fun _ => by kernel_rfl⟩
instance : Zr P 21 ([Value.int .i32 0]) := ⟨fun _ => ⟨Value.int .i32 0, by kernel_rfl, by kernel_rfl⟩⟩
instance : Sc P 22 := ⟨fun _ => by kernel_rfl, fun _ => by kernel_rfl⟩
instance : El P 22 5 1 := ⟨by kernel_rfl, by kernel_rfl⟩
instance : SlT P 22 := ⟨⟨5, by kernel_rfl⟩⟩
instance : Tx P 22 9 := ⟨⟨5, by kernel_rfl, by kernel_rfl, by kernel_rfl⟩⟩
instance : Ty P 9 22 5 := ⟨⟨by kernel_rfl, by kernel_rfl, by kernel_rfl⟩⟩
instance : Zr P 22 ([Value.slice none 0 0]) := ⟨fun _ => ⟨Value.slice none 0 0, by kernel_rfl, by kernel_rfl⟩⟩
instance : Sc P 24 := ⟨fun _ => by kernel_rfl, fun _ => by kernel_rfl⟩
instance : Zr P 24 ([Value.pointer none]) := ⟨fun _ => ⟨Value.pointer none, by kernel_rfl, by kernel_rfl⟩⟩
instance : Sc P 26 := ⟨fun _ => by kernel_rfl, fun _ => by kernel_rfl⟩
instance : Zr P 26 ([Value.int .i64 0]) := ⟨fun _ => ⟨Value.int .i64 0, by kernel_rfl, by kernel_rfl⟩⟩
instance : Sc P 37 := ⟨fun _ => by kernel_rfl, fun _ => by kernel_rfl⟩
instance : El P 37 73 1 := ⟨by kernel_rfl, by kernel_rfl⟩
instance : SlT P 37 := ⟨⟨73, by kernel_rfl⟩⟩
instance : Zr P 37 ([Value.slice none 0 0]) := ⟨fun _ => ⟨Value.slice none 0 0, by kernel_rfl, by kernel_rfl⟩⟩
instance : Ag P 39 2 := ⟨fun _ => by kernel_rfl, fun _ => by kernel_rfl⟩
instance : Zr P 39 ([Value.slice none 0 0, Value.int .i64 0]) := ⟨fun _ => ⟨.agg ([Value.slice none 0 0, Value.int .i64 0]).toArray, by kernel_rfl, by kernel_rfl⟩⟩
instance : Sc P 40 := ⟨fun _ => by kernel_rfl, fun _ => by kernel_rfl⟩
instance : El P 40 42 6 := ⟨by kernel_rfl, by kernel_rfl⟩
instance : SlT P 40 := ⟨⟨42, by kernel_rfl⟩⟩
instance : Zr P 40 ([Value.slice none 0 0]) := ⟨fun _ => ⟨Value.slice none 0 0, by kernel_rfl, by kernel_rfl⟩⟩
instance : Ag P 42 6 := ⟨fun _ => by kernel_rfl, fun _ => by kernel_rfl⟩
instance : Zr P 42 ([Value.int .i64 0, Value.int .i64 0, Value.int .i64 0, Value.int .i64 0, Value.int .i64 0, Value.slice none 0 0]) := ⟨fun _ => ⟨.agg ([Value.int .i64 0, Value.int .i64 0, Value.int .i64 0, Value.int .i64 0, Value.int .i64 0, Value.slice none 0 0]).toArray, by kernel_rfl, by kernel_rfl⟩⟩
instance : Sc P 45 := ⟨fun _ => by kernel_rfl, fun _ => by kernel_rfl⟩
instance : Zr P 45 ([Value.pointer none]) := ⟨fun _ => ⟨Value.pointer none, by kernel_rfl, by kernel_rfl⟩⟩
instance : Sc P 49 := ⟨fun _ => by kernel_rfl, fun _ => by kernel_rfl⟩
instance : Zr P 49 ([Value.pointer none]) := ⟨fun _ => ⟨Value.pointer none, by kernel_rfl, by kernel_rfl⟩⟩
instance : Sc P 52 := ⟨fun _ => by kernel_rfl, fun _ => by kernel_rfl⟩
instance : Zr P 52 ([Value.pointer none]) := ⟨fun _ => ⟨Value.pointer none, by kernel_rfl, by kernel_rfl⟩⟩
instance : Sc P 55 := ⟨fun _ => by kernel_rfl, fun _ => by kernel_rfl⟩
instance : Zr P 55 ([Value.pointer none]) := ⟨fun _ => ⟨Value.pointer none, by kernel_rfl, by kernel_rfl⟩⟩
instance : Sc P 58 := ⟨fun _ => by kernel_rfl, fun _ => by kernel_rfl⟩
instance : Zr P 58 ([Value.pointer none]) := ⟨fun _ => ⟨Value.pointer none, by kernel_rfl, by kernel_rfl⟩⟩
instance : Ag P 60 8 := ⟨fun _ => by kernel_rfl, fun _ => by kernel_rfl⟩
instance : Ar P 60 8 3 1 := ⟨by kernel_rfl, fun _ => by kernel_rfl⟩
instance : Zr P 60 ([Value.int .i64 0, Value.int .i64 0, Value.int .i64 0, Value.int .i64 0, Value.int .i64 0, Value.int .i64 0, Value.int .i64 0, Value.int .i64 0]) := ⟨fun _ => ⟨.agg ([Value.int .i64 0, Value.int .i64 0, Value.int .i64 0, Value.int .i64 0, Value.int .i64 0, Value.int .i64 0, Value.int .i64 0, Value.int .i64 0]).toArray, by kernel_rfl, by kernel_rfl⟩⟩
instance : Sc P 61 := ⟨fun _ => by kernel_rfl, fun _ => by kernel_rfl⟩
instance : Zr P 61 ([Value.pointer none]) := ⟨fun _ => ⟨Value.pointer none, by kernel_rfl, by kernel_rfl⟩⟩
instance : Sc P 64 := ⟨fun _ => by kernel_rfl, fun _ => by kernel_rfl⟩
instance : Zr P 64 ([Value.pointer none]) := ⟨fun _ => ⟨Value.pointer none, by kernel_rfl, by kernel_rfl⟩⟩
instance : Ag P 66 4 := ⟨fun _ => by kernel_rfl, fun _ => by kernel_rfl⟩
instance : Zr P 66 ([Value.int .i64 0, Value.slice none 0 0, Value.pointer none, Value.pointer none]) := ⟨fun _ => ⟨.agg ([Value.int .i64 0, Value.slice none 0 0, Value.pointer none, Value.pointer none]).toArray, by kernel_rfl, by kernel_rfl⟩⟩
instance : Ag P 70 5 := ⟨fun _ => by kernel_rfl, fun _ => by kernel_rfl⟩
instance : Zr P 70 ([Value.int .i64 0, Value.int .i64 0, Value.int .i64 0, Value.int .i64 0, Value.slice none 0 0]) := ⟨fun _ => ⟨.agg ([Value.int .i64 0, Value.int .i64 0, Value.int .i64 0, Value.int .i64 0, Value.slice none 0 0]).toArray, by kernel_rfl, by kernel_rfl⟩⟩
instance : Sc P 73 := ⟨fun _ => by kernel_rfl, fun _ => by kernel_rfl⟩
instance : El P 73 3 1 := ⟨by kernel_rfl, by kernel_rfl⟩
instance : SlT P 73 := ⟨⟨3, by kernel_rfl⟩⟩
instance : Zr P 73 ([Value.slice none 0 0]) := ⟨fun _ => ⟨Value.slice none 0 0, by kernel_rfl, by kernel_rfl⟩⟩
instance : Sc P 75 := ⟨fun _ => by kernel_rfl, fun _ => by kernel_rfl⟩
instance : Zr P 75 ([Value.pointer none]) := ⟨fun _ => ⟨Value.pointer none, by kernel_rfl, by kernel_rfl⟩⟩
instance : Sc P 78 := ⟨fun _ => by kernel_rfl, fun _ => by kernel_rfl⟩
instance : El P 78 158 9 := ⟨by kernel_rfl, by kernel_rfl⟩
instance : SlT P 78 := ⟨⟨158, by kernel_rfl⟩⟩
instance : Zr P 78 ([Value.slice none 0 0]) := ⟨fun _ => ⟨Value.slice none 0 0, by kernel_rfl, by kernel_rfl⟩⟩
instance : Sc P 80 := ⟨fun _ => by kernel_rfl, fun _ => by kernel_rfl⟩
instance : Zr P 80 ([Value.pointer none]) := ⟨fun _ => ⟨Value.pointer none, by kernel_rfl, by kernel_rfl⟩⟩
instance : Ag P 82 7 := ⟨fun _ => by kernel_rfl, fun _ => by kernel_rfl⟩
instance : Zr P 82 ([Value.slice none 0 0, Value.int .i64 0, Value.pointer none, Value.int .i64 0, Value.slice none 0 0, Value.slice none 0 0, Value.slice none 0 0]) := ⟨fun _ => ⟨.agg ([Value.slice none 0 0, Value.int .i64 0, Value.pointer none, Value.int .i64 0, Value.slice none 0 0, Value.slice none 0 0, Value.slice none 0 0]).toArray, by kernel_rfl, by kernel_rfl⟩⟩
instance : Sc P 83 := ⟨fun _ => by kernel_rfl, fun _ => by kernel_rfl⟩
instance : Zr P 83 ([Value.pointer none]) := ⟨fun _ => ⟨Value.pointer none, by kernel_rfl, by kernel_rfl⟩⟩
instance : Sc P 84 := ⟨fun _ => by kernel_rfl, fun _ => by kernel_rfl⟩
instance : Zr P 84 ([Value.pointer none]) := ⟨fun _ => ⟨Value.pointer none, by kernel_rfl, by kernel_rfl⟩⟩
instance : Sc P 85 := ⟨fun _ => by kernel_rfl, fun _ => by kernel_rfl⟩
instance : El P 85 190 4 := ⟨by kernel_rfl, by kernel_rfl⟩
instance : SlT P 85 := ⟨⟨190, by kernel_rfl⟩⟩
instance : Zr P 85 ([Value.slice none 0 0]) := ⟨fun _ => ⟨Value.slice none 0 0, by kernel_rfl, by kernel_rfl⟩⟩
instance : Ag P 87 10 := ⟨fun _ => by kernel_rfl, fun _ => by kernel_rfl⟩
instance : Zr P 87 ([Value.slice none 0 0, Value.int .i64 0, Value.pointer none, Value.pointer none, Value.pointer none, Value.slice none 0 0, Value.slice none 0 0, Value.slice none 0 0, Value.bool false, Value.int .i64 0]) := ⟨fun _ => ⟨.agg ([Value.slice none 0 0, Value.int .i64 0, Value.pointer none, Value.pointer none, Value.pointer none, Value.slice none 0 0, Value.slice none 0 0, Value.slice none 0 0, Value.bool false, Value.int .i64 0]).toArray, by kernel_rfl, by kernel_rfl⟩⟩
instance : Sc P 93 := ⟨fun _ => by kernel_rfl, fun _ => by kernel_rfl⟩
instance : Zr P 93 ([Value.int .u32 0]) := ⟨fun _ => ⟨Value.int .u32 0, by kernel_rfl, by kernel_rfl⟩⟩
instance : Ag P 97 2 := ⟨fun _ => by kernel_rfl, fun _ => by kernel_rfl⟩
instance : Zr P 97 ([Value.int .i32 0, Value.int .u32 0]) := ⟨fun _ => ⟨.agg ([Value.int .i32 0, Value.int .u32 0]).toArray, by kernel_rfl, by kernel_rfl⟩⟩
instance : Ag P 102 64 := ⟨fun _ => by kernel_rfl, fun _ => by kernel_rfl⟩
instance : Ar P 102 64 93 1 := ⟨by kernel_rfl, fun _ => by kernel_rfl⟩
instance : Zr P 102 (List.replicate 64 (Value.int .u32 0)) := ⟨fun _ => ⟨.agg (List.replicate 64 (Value.int .u32 0)).toArray, by kernel_rfl, by kernel_rfl⟩⟩
instance : Ag P 103 8 := ⟨fun _ => by kernel_rfl, fun _ => by kernel_rfl⟩
instance : Ar P 103 8 93 1 := ⟨by kernel_rfl, fun _ => by kernel_rfl⟩
instance : Zr P 103 ([Value.int .u32 0, Value.int .u32 0, Value.int .u32 0, Value.int .u32 0, Value.int .u32 0, Value.int .u32 0, Value.int .u32 0, Value.int .u32 0]) := ⟨fun _ => ⟨.agg ([Value.int .u32 0, Value.int .u32 0, Value.int .u32 0, Value.int .u32 0, Value.int .u32 0, Value.int .u32 0, Value.int .u32 0, Value.int .u32 0]).toArray, by kernel_rfl, by kernel_rfl⟩⟩
instance : Ag P 105 75 := ⟨fun _ => by kernel_rfl, fun _ => by kernel_rfl⟩
instance : Zr P 105 ([Value.int .u32 0, Value.int .i32 0] ++ List.replicate 73 (Value.int .u32 0)) := ⟨fun _ => ⟨.agg ([Value.int .u32 0, Value.int .i32 0] ++ List.replicate 73 (Value.int .u32 0)).toArray, by kernel_rfl, by kernel_rfl⟩⟩
instance : Sc P 107 := ⟨fun _ => by kernel_rfl, fun _ => by kernel_rfl⟩
instance : Zr P 107 ([Value.int .u64 0]) := ⟨fun _ => ⟨Value.int .u64 0, by kernel_rfl, by kernel_rfl⟩⟩
instance : Sc P 111 := ⟨fun _ => by kernel_rfl, fun _ => by kernel_rfl⟩
instance : Zr P 111 ([Value.pointer none]) := ⟨fun _ => ⟨Value.pointer none, by kernel_rfl, by kernel_rfl⟩⟩
instance : Sc P 114 := ⟨fun _ => by kernel_rfl, fun _ => by kernel_rfl⟩
instance : El P 114 22 1 := ⟨by kernel_rfl, by kernel_rfl⟩
instance : SlT P 114 := ⟨⟨22, by kernel_rfl⟩⟩
instance : Zr P 114 ([Value.slice none 0 0]) := ⟨fun _ => ⟨Value.slice none 0 0, by kernel_rfl, by kernel_rfl⟩⟩
instance : Sc P 115 := ⟨fun _ => by kernel_rfl, fun _ => by kernel_rfl⟩
instance : Zr P 115 ([Value.map none]) := ⟨fun _ => ⟨Value.map none, by kernel_rfl, by kernel_rfl⟩⟩
instance : Ag P 117 4 := ⟨fun _ => by kernel_rfl, fun _ => by kernel_rfl⟩
instance : Zr P 117 ([Value.slice none 0 0, Value.map none, Value.int .i64 0, Value.int .u32 0]) := ⟨fun _ => ⟨.agg ([Value.slice none 0 0, Value.map none, Value.int .i64 0, Value.int .u32 0]).toArray, by kernel_rfl, by kernel_rfl⟩⟩
instance : Sc P 118 := ⟨fun _ => by kernel_rfl, fun _ => by kernel_rfl⟩
instance : El P 118 9 1 := ⟨by kernel_rfl, by kernel_rfl⟩
instance : SlT P 118 := ⟨⟨9, by kernel_rfl⟩⟩
instance : Zr P 118 ([Value.slice none 0 0]) := ⟨fun _ => ⟨Value.slice none 0 0, by kernel_rfl, by kernel_rfl⟩⟩
instance : Ag P 120 5 := ⟨fun _ => by kernel_rfl, fun _ => by kernel_rfl⟩
instance : Zr P 120 ([Value.slice none 0 0, Value.slice none 0 0, Value.slice none 0 0, Value.int .i64 0, Value.bool false]) := ⟨fun _ => ⟨.agg ([Value.slice none 0 0, Value.slice none 0 0, Value.slice none 0 0, Value.int .i64 0, Value.bool false]).toArray, by kernel_rfl, by kernel_rfl⟩⟩
instance : Sc P 122 := ⟨fun _ => by kernel_rfl, fun _ => by kernel_rfl⟩
instance : Zr P 122 ([Value.pointer none]) := ⟨fun _ => ⟨Value.pointer none, by kernel_rfl, by kernel_rfl⟩⟩
instance : Sc P 124 := ⟨fun _ => by kernel_rfl, fun _ => by kernel_rfl⟩
instance : El P 124 192 6 := ⟨by kernel_rfl, by kernel_rfl⟩
instance : SlT P 124 := ⟨⟨192, by kernel_rfl⟩⟩
instance : Zr P 124 ([Value.slice none 0 0]) := ⟨fun _ => ⟨Value.slice none 0 0, by kernel_rfl, by kernel_rfl⟩⟩
instance : Ag P 126 5 := ⟨fun _ => by kernel_rfl, fun _ => by kernel_rfl⟩
instance : Zr P 126 ([Value.pointer none, Value.pointer none, Value.slice none 0 0, Value.bool false, Value.int .i64 0]) := ⟨fun _ => ⟨.agg ([Value.pointer none, Value.pointer none, Value.slice none 0 0, Value.bool false, Value.int .i64 0]).toArray, by kernel_rfl, by kernel_rfl⟩⟩
instance : Ag P 138 9 := ⟨fun _ => by kernel_rfl, fun _ => by kernel_rfl⟩
instance : Zr P 138 ([Value.pointer none, Value.int .i64 0, Value.int .i64 0, Value.bool false, Value.slice none 0 0, Value.slice none 0 0, Value.int .i64 0, Value.int .i64 0, Value.bool false]) := ⟨fun _ => ⟨.agg ([Value.pointer none, Value.int .i64 0, Value.int .i64 0, Value.bool false, Value.slice none 0 0, Value.slice none 0 0, Value.int .i64 0, Value.int .i64 0, Value.bool false]).toArray, by kernel_rfl, by kernel_rfl⟩⟩
instance : Ag P 141 1 := ⟨fun _ => by kernel_rfl, fun _ => by kernel_rfl⟩
instance : Zr P 141 ([Value.int .i64 0]) := ⟨fun _ => ⟨.agg ([Value.int .i64 0]).toArray, by kernel_rfl, by kernel_rfl⟩⟩
instance : Ag P 142 8 := ⟨fun _ => by kernel_rfl, fun _ => by kernel_rfl⟩
instance : Ar P 142 8 141 1 := ⟨by kernel_rfl, fun _ => by kernel_rfl⟩
instance : Zr P 142 ([Value.int .i64 0, Value.int .i64 0, Value.int .i64 0, Value.int .i64 0, Value.int .i64 0, Value.int .i64 0, Value.int .i64 0, Value.int .i64 0]) := ⟨fun _ => ⟨.agg ([Value.int .i64 0, Value.int .i64 0, Value.int .i64 0, Value.int .i64 0, Value.int .i64 0, Value.int .i64 0, Value.int .i64 0, Value.int .i64 0]).toArray, by kernel_rfl, by kernel_rfl⟩⟩
instance : Ag P 144 8 := ⟨fun _ => by kernel_rfl, fun _ => by kernel_rfl⟩
instance : Zr P 144 ([Value.int .i64 0, Value.int .i64 0, Value.int .i64 0, Value.int .i64 0, Value.int .i64 0, Value.int .i64 0, Value.int .i64 0, Value.int .i64 0]) := ⟨fun _ => ⟨.agg ([Value.int .i64 0, Value.int .i64 0, Value.int .i64 0, Value.int .i64 0, Value.int .i64 0, Value.int .i64 0, Value.int .i64 0, Value.int .i64 0]).toArray, by kernel_rfl, by kernel_rfl⟩⟩
instance : Ag P 146 5 := ⟨fun _ => by kernel_rfl, fun _ => by kernel_rfl⟩
instance : Zr P 146 ([Value.pointer none, Value.int .i64 0, Value.slice none 0 0, Value.pointer none, Value.pointer none]) := ⟨fun _ => ⟨.agg ([Value.pointer none, Value.int .i64 0, Value.slice none 0 0, Value.pointer none, Value.pointer none]).toArray, by kernel_rfl, by kernel_rfl⟩⟩
instance : Ag P 158 9 := ⟨fun _ => by kernel_rfl, fun _ => by kernel_rfl⟩
instance : Zr P 158 ([Value.int .i64 0, Value.int .i64 0, Value.int .i64 0, Value.int .i64 0, Value.int .i64 0, Value.int .i64 0, Value.int .i64 0, Value.string ⟨#[]⟩, Value.string ⟨#[]⟩]) := ⟨fun _ => ⟨.agg ([Value.int .i64 0, Value.int .i64 0, Value.int .i64 0, Value.int .i64 0, Value.int .i64 0, Value.int .i64 0, Value.int .i64 0, Value.string ⟨#[]⟩, Value.string ⟨#[]⟩]).toArray, by kernel_rfl, by kernel_rfl⟩⟩
instance : Sc P 159 := ⟨fun _ => by kernel_rfl, fun _ => by kernel_rfl⟩
instance : Zr P 159 ([Value.pointer none]) := ⟨fun _ => ⟨Value.pointer none, by kernel_rfl, by kernel_rfl⟩⟩
instance : Sc P 160 := ⟨fun _ => by kernel_rfl, fun _ => by kernel_rfl⟩
instance : El P 160 164 11 := ⟨by kernel_rfl, by kernel_rfl⟩
instance : SlT P 160 := ⟨⟨164, by kernel_rfl⟩⟩
instance : Zr P 160 ([Value.slice none 0 0]) := ⟨fun _ => ⟨Value.slice none 0 0, by kernel_rfl, by kernel_rfl⟩⟩
instance : Ag P 162 5 := ⟨fun _ => by kernel_rfl, fun _ => by kernel_rfl⟩
instance : Zr P 162 ([Value.slice none 0 0, Value.int .i64 0, Value.pointer none, Value.int .i64 0, Value.slice none 0 0]) := ⟨fun _ => ⟨.agg ([Value.slice none 0 0, Value.int .i64 0, Value.pointer none, Value.int .i64 0, Value.slice none 0 0]).toArray, by kernel_rfl, by kernel_rfl⟩⟩
instance : Ag P 164 11 := ⟨fun _ => by kernel_rfl, fun _ => by kernel_rfl⟩
instance : Zr P 164 (List.replicate 9 (Value.int .i64 0) ++ [Value.string ⟨#[]⟩, Value.string ⟨#[]⟩]) := ⟨fun _ => ⟨.agg (List.replicate 9 (Value.int .i64 0) ++ [Value.string ⟨#[]⟩, Value.string ⟨#[]⟩]).toArray, by kernel_rfl, by kernel_rfl⟩⟩
instance : Ag P 172 1 := ⟨fun _ => by kernel_rfl, fun _ => by kernel_rfl⟩
instance : Zr P 172 ([Value.slice none 0 0]) := ⟨fun _ => ⟨.agg ([Value.slice none 0 0]).toArray, by kernel_rfl, by kernel_rfl⟩⟩
instance : Sc P 176 := ⟨fun _ => by kernel_rfl, fun _ => by kernel_rfl⟩
instance : Zr P 176 ([Value.pointer none]) := ⟨fun _ => ⟨Value.pointer none, by kernel_rfl, by kernel_rfl⟩⟩
instance : Ag P 180 9 := ⟨fun _ => by kernel_rfl, fun _ => by kernel_rfl⟩
instance : Zr P 180 ([Value.pointer none, Value.pointer none, Value.bool false, Value.int .i64 0, Value.int .i64 0, Value.bool false, Value.slice none 0 0, Value.slice none 0 0, Value.int .i64 0]) := ⟨fun _ => ⟨.agg ([Value.pointer none, Value.pointer none, Value.bool false, Value.int .i64 0, Value.int .i64 0, Value.bool false, Value.slice none 0 0, Value.slice none 0 0, Value.int .i64 0]).toArray, by kernel_rfl, by kernel_rfl⟩⟩
instance : Sc P 188 := ⟨fun _ => by kernel_rfl, fun _ => by kernel_rfl⟩
instance : El P 188 195 2 := ⟨by kernel_rfl, by kernel_rfl⟩
instance : SlT P 188 := ⟨⟨195, by kernel_rfl⟩⟩
instance : Zr P 188 ([Value.slice none 0 0]) := ⟨fun _ => ⟨Value.slice none 0 0, by kernel_rfl, by kernel_rfl⟩⟩
instance : Ag P 190 4 := ⟨fun _ => by kernel_rfl, fun _ => by kernel_rfl⟩
instance : Zr P 190 ([Value.int .i64 0, Value.int .i64 0, Value.slice none 0 0, Value.slice none 0 0]) := ⟨fun _ => ⟨.agg ([Value.int .i64 0, Value.int .i64 0, Value.slice none 0 0, Value.slice none 0 0]).toArray, by kernel_rfl, by kernel_rfl⟩⟩
instance : Ag P 192 6 := ⟨fun _ => by kernel_rfl, fun _ => by kernel_rfl⟩
instance : Zr P 192 ([Value.int .i64 0, Value.int .i64 0, Value.int .i64 0, Value.int .i64 0, Value.slice none 0 0, Value.slice none 0 0]) := ⟨fun _ => ⟨.agg ([Value.int .i64 0, Value.int .i64 0, Value.int .i64 0, Value.int .i64 0, Value.slice none 0 0, Value.slice none 0 0]).toArray, by kernel_rfl, by kernel_rfl⟩⟩
instance : Ag P 195 2 := ⟨fun _ => by kernel_rfl, fun _ => by kernel_rfl⟩
instance : Zr P 195 ([Value.int .i64 0, Value.int .i64 0]) := ⟨fun _ => ⟨.agg ([Value.int .i64 0, Value.int .i64 0]).toArray, by kernel_rfl, by kernel_rfl⟩⟩
instance : Sc P 196 := ⟨fun _ => by kernel_rfl, fun _ => by kernel_rfl⟩
instance : El P 196 258 8 := ⟨by kernel_rfl, by kernel_rfl⟩
instance : SlT P 196 := ⟨⟨258, by kernel_rfl⟩⟩
instance : Zr P 196 ([Value.slice none 0 0]) := ⟨fun _ => ⟨Value.slice none 0 0, by kernel_rfl, by kernel_rfl⟩⟩
instance : Ag P 198 2 := ⟨fun _ => by kernel_rfl, fun _ => by kernel_rfl⟩
instance : Zr P 198 ([Value.int .i64 0, Value.slice none 0 0]) := ⟨fun _ => ⟨.agg ([Value.int .i64 0, Value.slice none 0 0]).toArray, by kernel_rfl, by kernel_rfl⟩⟩
instance : Sc P 202 := ⟨fun _ => by kernel_rfl, fun _ => by kernel_rfl⟩
instance : El P 202 325 8 := ⟨by kernel_rfl, by kernel_rfl⟩
instance : SlT P 202 := ⟨⟨325, by kernel_rfl⟩⟩
instance : Zr P 202 ([Value.slice none 0 0]) := ⟨fun _ => ⟨Value.slice none 0 0, by kernel_rfl, by kernel_rfl⟩⟩
instance : Ag P 204 2 := ⟨fun _ => by kernel_rfl, fun _ => by kernel_rfl⟩
instance : Zr P 204 ([Value.pointer none, Value.slice none 0 0]) := ⟨fun _ => ⟨.agg ([Value.pointer none, Value.slice none 0 0]).toArray, by kernel_rfl, by kernel_rfl⟩⟩
instance : Ag P 206 4 := ⟨fun _ => by kernel_rfl, fun _ => by kernel_rfl⟩
instance : Zr P 206 ([Value.int .i64 0, Value.int .i64 0, Value.int .i64 0, Value.slice none 0 0]) := ⟨fun _ => ⟨.agg ([Value.int .i64 0, Value.int .i64 0, Value.int .i64 0, Value.slice none 0 0]).toArray, by kernel_rfl, by kernel_rfl⟩⟩
instance : Ag P 213 2 := ⟨fun _ => by kernel_rfl, fun _ => by kernel_rfl⟩
instance : Zr P 213 ([Value.slice none 0 0, Value.int .i64 0]) := ⟨fun _ => ⟨.agg ([Value.slice none 0 0, Value.int .i64 0]).toArray, by kernel_rfl, by kernel_rfl⟩⟩
instance : Ag P 217 2 := ⟨fun _ => by kernel_rfl, fun _ => by kernel_rfl⟩
instance : Zr P 217 ([Value.slice none 0 0, Value.int .i64 0]) := ⟨fun _ => ⟨.agg ([Value.slice none 0 0, Value.int .i64 0]).toArray, by kernel_rfl, by kernel_rfl⟩⟩
instance : Sc P 231 := ⟨fun _ => by kernel_rfl, fun _ => by kernel_rfl⟩
instance : Zr P 231 ([Value.pointer none]) := ⟨fun _ => ⟨Value.pointer none, by kernel_rfl, by kernel_rfl⟩⟩
instance : Ag P 234 3 := ⟨fun _ => by kernel_rfl, fun _ => by kernel_rfl⟩
instance : Zr P 234 ([Value.pointer none, Value.slice none 0 0, Value.pointer none]) := ⟨fun _ => ⟨.agg ([Value.pointer none, Value.slice none 0 0, Value.pointer none]).toArray, by kernel_rfl, by kernel_rfl⟩⟩
instance : Sc P 237 := ⟨fun _ => by kernel_rfl, fun _ => by kernel_rfl⟩
instance : Zr P 237 ([Value.int .u64 0]) := ⟨fun _ => ⟨Value.int .u64 0, by kernel_rfl, by kernel_rfl⟩⟩
instance : Sc P 239 := ⟨fun _ => by kernel_rfl, fun _ => by kernel_rfl⟩
instance : El P 239 93 1 := ⟨by kernel_rfl, by kernel_rfl⟩
instance : SlT P 239 := ⟨⟨93, by kernel_rfl⟩⟩
instance : Zr P 239 ([Value.slice none 0 0]) := ⟨fun _ => ⟨Value.slice none 0 0, by kernel_rfl, by kernel_rfl⟩⟩
instance : Ag P 242 1 := ⟨fun _ => by kernel_rfl, fun _ => by kernel_rfl⟩
instance : Zr P 242 ([Value.slice none 0 0]) := ⟨fun _ => ⟨.agg ([Value.slice none 0 0]).toArray, by kernel_rfl, by kernel_rfl⟩⟩
instance : Ag P 246 3 := ⟨fun _ => by kernel_rfl, fun _ => by kernel_rfl⟩
instance : Zr P 246 ([Value.pointer none, Value.pointer none, Value.slice none 0 0]) := ⟨fun _ => ⟨.agg ([Value.pointer none, Value.pointer none, Value.slice none 0 0]).toArray, by kernel_rfl, by kernel_rfl⟩⟩
instance : Ag P 248 2 := ⟨fun _ => by kernel_rfl, fun _ => by kernel_rfl⟩
instance : Zr P 248 ([Value.slice none 0 0, Value.int .i64 0]) := ⟨fun _ => ⟨.agg ([Value.slice none 0 0, Value.int .i64 0]).toArray, by kernel_rfl, by kernel_rfl⟩⟩
instance : Ag P 256 2 := ⟨fun _ => by kernel_rfl, fun _ => by kernel_rfl⟩
instance : Zr P 256 ([Value.slice none 0 0, Value.bool false]) := ⟨fun _ => ⟨.agg ([Value.slice none 0 0, Value.bool false]).toArray, by kernel_rfl, by kernel_rfl⟩⟩
instance : Ag P 258 8 := ⟨fun _ => by kernel_rfl, fun _ => by kernel_rfl⟩
instance : Zr P 258 ([Value.int .i64 0, Value.int .i64 0, Value.int .i64 0, Value.int .i64 0, Value.int .i64 0, Value.int .i64 0, Value.string ⟨#[]⟩, Value.string ⟨#[]⟩]) := ⟨fun _ => ⟨.agg ([Value.int .i64 0, Value.int .i64 0, Value.int .i64 0, Value.int .i64 0, Value.int .i64 0, Value.int .i64 0, Value.string ⟨#[]⟩, Value.string ⟨#[]⟩]).toArray, by kernel_rfl, by kernel_rfl⟩⟩
instance : Ag P 267 2 := ⟨fun _ => by kernel_rfl, fun _ => by kernel_rfl⟩
instance : Zr P 267 ([Value.slice none 0 0, Value.int .i64 0]) := ⟨fun _ => ⟨.agg ([Value.slice none 0 0, Value.int .i64 0]).toArray, by kernel_rfl, by kernel_rfl⟩⟩
instance : Ag P 272 11 := ⟨fun _ => by kernel_rfl, fun _ => by kernel_rfl⟩
instance : Zr P 272 ([Value.pointer none, Value.int .u32 0, Value.int .u32 0, Value.int .u32 0, Value.int .u32 0, Value.int .u32 0, Value.int .u32 0, Value.int .u32 0, Value.int .u32 0, Value.slice none 0 0, Value.int .u64 0]) := ⟨fun _ => ⟨.agg ([Value.pointer none, Value.int .u32 0, Value.int .u32 0, Value.int .u32 0, Value.int .u32 0, Value.int .u32 0, Value.int .u32 0, Value.int .u32 0, Value.int .u32 0, Value.slice none 0 0, Value.int .u64 0]).toArray, by kernel_rfl, by kernel_rfl⟩⟩
instance : Sc P 294 := ⟨fun _ => by kernel_rfl, fun _ => by kernel_rfl⟩
instance : Zr P 294 ([Value.pointer none]) := ⟨fun _ => ⟨Value.pointer none, by kernel_rfl, by kernel_rfl⟩⟩
instance : Ag P 299 2 := ⟨fun _ => by kernel_rfl, fun _ => by kernel_rfl⟩
instance : Zr P 299 ([Value.slice none 0 0, Value.bool false]) := ⟨fun _ => ⟨.agg ([Value.slice none 0 0, Value.bool false]).toArray, by kernel_rfl, by kernel_rfl⟩⟩
instance : Ag P 325 8 := ⟨fun _ => by kernel_rfl, fun _ => by kernel_rfl⟩
instance : Zr P 325 ([Value.int .i64 0, Value.int .i64 0, Value.int .i64 0, Value.int .i64 0, Value.int .i64 0, Value.int .i64 0, Value.string ⟨#[]⟩, Value.string ⟨#[]⟩]) := ⟨fun _ => ⟨.agg ([Value.int .i64 0, Value.int .i64 0, Value.int .i64 0, Value.int .i64 0, Value.int .i64 0, Value.int .i64 0, Value.string ⟨#[]⟩, Value.string ⟨#[]⟩]).toArray, by kernel_rfl, by kernel_rfl⟩⟩
instance : Sc P 336 := ⟨fun _ => by kernel_rfl, fun _ => by kernel_rfl⟩
instance : Zr P 336 ([Value.pointer none]) := ⟨fun _ => ⟨Value.pointer none, by kernel_rfl, by kernel_rfl⟩⟩
instance : B8 P 22 5 := ⟨by kernel_rfl, by kernel_rfl⟩
instance : PtrT P 24 := ⟨⟨105, by kernel_rfl⟩⟩
instance : PtrT P 45 := ⟨⟨117, by kernel_rfl⟩⟩
instance : PtrT P 49 := ⟨⟨120, by kernel_rfl⟩⟩
instance : PtrT P 52 := ⟨⟨126, by kernel_rfl⟩⟩
instance : PtrT P 55 := ⟨⟨87, by kernel_rfl⟩⟩
instance : PtrT P 58 := ⟨⟨144, by kernel_rfl⟩⟩
instance : PtrT P 61 := ⟨⟨146, by kernel_rfl⟩⟩
instance : PtrT P 64 := ⟨⟨60, by kernel_rfl⟩⟩
instance : PtrT P 75 := ⟨⟨162, by kernel_rfl⟩⟩
instance : PtrT P 80 := ⟨⟨204, by kernel_rfl⟩⟩
instance : PtrT P 83 := ⟨⟨138, by kernel_rfl⟩⟩
instance : PtrT P 84 := ⟨⟨82, by kernel_rfl⟩⟩
instance : PtrT P 111 := ⟨⟨172, by kernel_rfl⟩⟩
instance : MapI P 115 (Value.slice none 0 0) := ⟨⟨3, 22, by kernel_rfl, by kernel_rfl, fun _ => by kernel_rfl⟩⟩
instance : PtrT P 122 := ⟨⟨180, by kernel_rfl⟩⟩
instance : PtrT P 159 := ⟨⟨246, by kernel_rfl⟩⟩
instance : PtrT P 176 := ⟨⟨242, by kernel_rfl⟩⟩
instance : PtrT P 231 := ⟨⟨272, by kernel_rfl⟩⟩
instance : PtrT P 294 := ⟨⟨3, by kernel_rfl⟩⟩
instance : PtrT P 336 := ⟨⟨97, by kernel_rfl⟩⟩
instance : Us P 336 340 := ⟨⟨97, by kernel_rfl, by kernel_rfl, by kernel_rfl⟩⟩
theorem x_sync_atomic_LoadInt64 {a : Addr} {w : World} {x : Int} (h : w.cell? a = some (.int .i64 x)) : Is P (callFunc 117 #[.pointer (some a)]) w (.value (.int .i64 x)) w := run_call_load Tryz.func117 (by kernel_rfl) (by kernel_rfl) (by kernel_rfl) .i64 (by kernel_rfl) h
theorem x_sync_atomic_AddInt64 {a : Addr} {w : World} {x y : Int} (h : w.cell? a = some (.int .i64 x)) (hz : w.frozen? a = false) : Is P (callFunc 161 #[.pointer (some a), .int .i64 y]) w (.value (.int .i64 (IntKind.wrap .i64 (x + y)))) (w.setCell a (.int .i64 (IntKind.wrap .i64 (x + y)))) := run_call_add Tryz.func161 (by kernel_rfl) (by kernel_rfl) (by kernel_rfl) .i64 (by kernel_rfl) h hz rfl
theorem x_sync_atomic_LoadUint32 {a : Addr} {w : World} {x : Int} (h : w.cell? a = some (.int .u32 x)) : Is P (callFunc 176 #[.pointer (some a)]) w (.value (.int .u32 x)) w := run_call_load Tryz.func176 (by kernel_rfl) (by kernel_rfl) (by kernel_rfl) .u32 (by kernel_rfl) h
theorem x_math_bits_Add64 (x y c : Nat) (hc : c ≤ 1) (w : World) : Is P (callFunc 248 #[.int .u64 x, .int .u64 y, .int .u64 c]) w (.value (tv [.int .u64 ((x + y + c) % 18446744073709551616 : Nat), .int .u64 ((x + y + c) / 18446744073709551616 : Nat)])) w := run_add64_call Tryz.func248 (by kernel_rfl) (by kernel_rfl) (by kernel_rfl) (by kernel_rfl) x y c hc w
theorem x_sync_atomic_StoreUint32 {a : Addr} {w : World} {u : Value} {y : Int} (h : w.cell? a = some u) (hz : w.frozen? a = false) : Is P (callFunc 253 #[.pointer (some a), .int .u32 y]) w (.value (.tuple #[])) (w.setCell a (.int .u32 y)) := run_call_store Tryz.func253 (by kernel_rfl) (by kernel_rfl) (by kernel_rfl) (by kernel_rfl) h hz
theorem x_internal_race_Disable (w : World) : Is P (callFunc 257 #[]) w (.value (tv [])) w := run_call_mark0 Tryz.func257 (by kernel_rfl) (by kernel_rfl) (by kernel_rfl) .disable (by kernel_rfl) w
theorem x_sync_atomic_CompareAndSwapInt32 {a : Addr} {w : World} {x y : Int} (h : w.cell? a = some (.int .i32 x)) (hz : w.frozen? a = false) : Is P (callFunc 258 #[.pointer (some a), .int .i32 x, .int .i32 y]) w (.value (bv true)) (w.setCell a (.int .i32 y)) := run_call_cas_hit Tryz.func258 (by kernel_rfl) (by kernel_rfl) (by kernel_rfl) .i32 (by kernel_rfl) h hz
theorem x_internal_race_Enable (w : World) : Is P (callFunc 259 #[]) w (.value (tv [])) w := run_call_mark0 Tryz.func259 (by kernel_rfl) (by kernel_rfl) (by kernel_rfl) .enable (by kernel_rfl) w
theorem x_internal_race_Acquire (a : Addr) (w : World) : Is P (callFunc 260 #[.pointer (some a)]) w (.value (tv [])) w := run_call_marked Tryz.func260 (by kernel_rfl) (by kernel_rfl) (by kernel_rfl) .acquire (by kernel_rfl) a w
theorem x_internal_race_ReleaseMerge (a : Addr) (w : World) : Is P (callFunc 262 #[.pointer (some a)]) w (.value (tv [])) w := run_call_marked Tryz.func262 (by kernel_rfl) (by kernel_rfl) (by kernel_rfl) .releaseMerge (by kernel_rfl) a w
theorem x_sync_atomic_AddInt32 {a : Addr} {w : World} {x y : Int} (h : w.cell? a = some (.int .i32 x)) (hz : w.frozen? a = false) : Is P (callFunc 263 #[.pointer (some a), .int .i32 y]) w (.value (.int .i32 (IntKind.wrap .i32 (x + y)))) (w.setCell a (.int .i32 (IntKind.wrap .i32 (x + y)))) := run_call_add Tryz.func263 (by kernel_rfl) (by kernel_rfl) (by kernel_rfl) .i32 (by kernel_rfl) h hz rfl
end Go.Proofs.Tz
